/- Part 5 of 6 of what the row of PoolBack stands on: contracts over the given program's functions, the plain law, the row; no condition beyond those that each theorem states. -/
import Derived.Test.YtkhbffjfclepfaaXPoolBack3
section
namespace Go.Proofs.Ytkhbffjfclepfaa.Q
open Go.RowKit Go.Proofs.YtkhbffjfclepfaaW.PrintWords Go.Proofs.YtkhbffjfclepfaaW.PrintLast Go.Proofs.YtkhbffjfclepfaaW.PrintMore
set_option linter.unusedVariables false
set_option linter.unusedSimpArgs false
def a_n.j0 : Nat → Int → Int → Int → Int → Int → List Int → Option (Bool)
 | 0,_,_,_,_,_,_ => none
 | k + 1,x475000,x475001,x475002,x475003,x475004,x480000 => (a_K.f k x480000 x475003 x475002).bind fun bt494 => (if bt494.2.2 = 0 then ((b_t.f k bt494.1 x475003).bind fun bt500 => ((a_K.f k bt494.1 x475003 bt494.2.1).bind fun bt502 => (if bt500.2 = true then (if bt500.1 = x475002 then (if bt502.2.2 = 0 then (if bt502.2.1 = x475002 then ((a_1.f k bt502.1 x480000).bind fun t508 => (some t508)) else (some false)) else (some false)) else (some false)) else (some false)))) else (some ((bt494.1.length : Int) == 0)))
def a_n.f (k : Nat) (l0_0 : List Int) (a1_0 : Int) (a1_1 : Int) (a1_2 : Int) (a1_3 : Int) (a1_4 : Int) : Option (Bool):=(a_A.f k).bind fun t475 => (if t475 = true then ((a_Z.f l0_0).bind fun t476 => ((a_q.f k t476).bind fun t480 => (if t480 = 0 then ((a_Q.f k t476 a1_1 a1_4).bind fun bt481 => (if bt481.2.2 = 0 then ((a_0.f k bt481.1 bt481.2.1 a1_1).bind fun bt487 => (if bt487.2 = 0 then ((a_1.f k bt487.1 t476).bind fun t492 => (if t492 = true then ((b_s.f k bt481.1 bt481.2.1).bind fun t493 => (if t493 = a1_4 then (a_n.j0 k a1_0 a1_1 a1_2 a1_3 a1_4 t476) else (some false))) else (some false))) else (some false))) else (a_n.j0 k a1_0 a1_1 a1_2 a1_3 a1_4 t476))) else (some true)))) else (some false))
theorem a_n.d_O : ∀ k,(∀ y0 y1 y2 y3 y4 y5,LeO (a_n.j0 k y0 y1 y2 y3 y4 y5) (a_n.j0 (k + 1) y0 y1 y2 y3 y4 y5))
 | 0 => fun _ _ _ _ _ _ r h => by simp [a_n.j0] at h
 | k + 1 => by
  have ih0:=a_n.d_O k
  ·intro y0 y1 y2 y3 y4 y5
   unfold a_n.j0
   repeat' first
   | (with_reducible exact ih0 _ _ _ _ _ _)
   | (with_reducible exact a_A.mono _)
   | (with_reducible exact a_q.mono _ _)
   | (with_reducible exact a_0.mono _ _ _ _)
   | (with_reducible exact a_K.mono _ _ _ _)
   | (with_reducible exact b_t.mono _ _ _)
   | (with_reducible exact a_1.mono _ _ _)
   | (with_reducible exact b_s.mono _ _ _)
   | (with_reducible exact a_Q.mono _ _ _ _)
   | (with_reducible exact LeO.refl _)
   | (with_reducible exact LeO.none _)
   | (with_reducible refine LeO.ite ?_ ?_)
   | (with_reducible refine LeO.bind ?_ (fun _ => ?_))
   | exact ih0 _ _ _ _ _ _
   | exact a_A.mono _
   | exact a_q.mono _ _
   | exact a_0.mono _ _ _ _
   | exact a_K.mono _ _ _ _
   | exact b_t.mono _ _ _
   | exact a_1.mono _ _ _
   | exact b_s.mono _ _ _
   | exact a_Q.mono _ _ _ _
   | exact LeO.none _
   | refine LeO.ite ?_ ?_
   | refine LeO.bind ?_ (fun _ => ?_)
theorem a_n.mono : ∀ a0 a1 a2 a3 a4 a5 k,LeO (a_n.f k a0 a1 a2 a3 a4 a5) (a_n.f (k + 1) a0 a1 a2 a3 a4 a5):=by
 intro a0 a1 a2 a3 a4 a5 k
 have ih0:=a_n.d_O k
 unfold a_n.f
 repeat' first
  | (with_reducible exact ih0 _ _ _ _ _ _)
  | (with_reducible exact a_A.mono _)
  | (with_reducible exact a_q.mono _ _)
  | (with_reducible exact a_0.mono _ _ _ _)
  | (with_reducible exact a_K.mono _ _ _ _)
  | (with_reducible exact b_t.mono _ _ _)
  | (with_reducible exact a_1.mono _ _ _)
  | (with_reducible exact b_s.mono _ _ _)
  | (with_reducible exact a_Q.mono _ _ _ _)
  | (with_reducible exact LeO.refl _)
  | (with_reducible exact LeO.none _)
  | (with_reducible refine LeO.ite ?_ ?_)
  | (with_reducible refine LeO.bind ?_ (fun _ => ?_))
  | exact ih0 _ _ _ _ _ _
  | exact a_A.mono _
  | exact a_q.mono _ _
  | exact a_0.mono _ _ _ _
  | exact a_K.mono _ _ _ _
  | exact b_t.mono _ _ _
  | exact a_1.mono _ _ _
  | exact b_s.mono _ _ _
  | exact a_Q.mono _ _ _ _
  | exact LeO.none _
  | refine LeO.ite ?_ ?_
  | refine LeO.bind ?_ (fun _ => ?_)
def a_n.T9 : Bool × List (List Nat × List Nat):=(true,[([],[]),([0],[0]),([1],[1]),([2],[2]),([2],[2]),([3,4,2,2],[2,3,4]),([5,2],[2,5]),([2,6],[2,6]),([7,5],[7]),([8],[8]),([8],[8]),([9,10,8,8],[8,9,10]),([8],[8]),([12,8],[8,12]),([11,13,8],[8,11,13]),([8,14],[8,14])])
def a_n.B9 : List Nat:=[0,1,3,7,7,31,63,127,255,511,511,2047,511,4607,16383,32767]
theorem a_n.tab9 : rtab .any (opsOf Try.f8 9) = a_n.T9:=by kernel_rfl
theorem a_n.g_P : d_6 a_n.T9.2 a_n.B9 = true:=by kernel_rfl
set_option maxHeartbeats 8000000 in
set_option maxRecDepth 100000 in
theorem a_n.calls (k : Nat) (A0_0 : Option Addr) (c0_0 : Nat) (l0_0 : List Int) (a1_0 : Int) (a1_1 : Int) (a1_2 : Int) (a1_3 : Int) (a1_4 : Int) (r : Bool) (w : World) (hr0_0 : Kd.C (Kd.int .u32) w A0_0 l0_0.length l0_0) (hc0_0 : l0_0.length ≤ c0_0) (h : a_n.f k l0_0 a1_0 a1_1 a1_2 a1_3 a1_4 = some r) :
 Calls Try.prog 8 #[.agg #[.slice A0_0 l0_0.length c0_0],.agg #[.int .i64 a1_0,.int .i64 a1_1,.int .i64 a1_2,.int .i64 a1_3,.int .u32 a1_4]] w fun e w' => e = .returned (.bool r) ∧ Below w.heap.size w w':=by
 have hu26:=Try.underlying26
 have hu36:=Try.underlying36
 have c_u:=a_a.mk hr0_0
 have c_L:=a_a.mk hc0_0
 clear hr0_0 hc0_0
 have HB:=a_a.mk (Below.refl w.heap.size w)
 have H : ((a_A.f k).bind fun t475 => (if t475 = true then ((a_Z.f l0_0).bind fun t476 => ((a_q.f k t476).bind fun t480 => (if t480 = 0 then ((a_Q.f k t476 a1_1 a1_4).bind fun bt481 => (if bt481.2.2 = 0 then ((a_0.f k bt481.1 bt481.2.1 a1_1).bind fun bt487 => (if bt487.2 = 0 then ((a_1.f k bt487.1 t476).bind fun t492 => (if t492 = true then ((b_s.f k bt481.1 bt481.2.1).bind fun t493 => (if t493 = a1_4 then (a_n.j0 k a1_0 a1_1 a1_2 a1_3 a1_4 t476) else (some false))) else (some false))) else (some false))) else (a_n.j0 k a1_0 a1_1 a1_2 a1_3 a1_4 t476))) else (some true)))) else (some false))) = some r:=h
 clear h
 replace H:=Option.bind_eq_some_iff.mp H
 obtain ⟨t475,A30,H⟩:=H
 replace H : (if t475 = true then ((a_Z.f l0_0).bind fun t476 => ((a_q.f k t476).bind fun t480 => (if t480 = 0 then ((a_Q.f k t476 a1_1 a1_4).bind fun bt481 => (if bt481.2.2 = 0 then ((a_0.f k bt481.1 bt481.2.1 a1_1).bind fun bt487 => (if bt487.2 = 0 then ((a_1.f k bt487.1 t476).bind fun t492 => (if t492 = true then ((b_s.f k bt481.1 bt481.2.1).bind fun t493 => (if t493 = a1_4 then (a_n.j0 k a1_0 a1_1 a1_2 a1_3 a1_4 t476) else (some false))) else (some false))) else (some false))) else (a_n.j0 k a1_0 a1_1 a1_2 a1_3 a1_4 t476))) else (some true)))) else (some false)) = some r:=H
 have A3:=a_a.mk A30
 clear A30
 by_cases c4 : t475 = true
 rotate_left
 ·replace c4:=Bool.eq_false_iff.mpr c4
  subst c4
  have H1 : (some false) = some r:=by rw [if_neg (show ¬ (false = true) by decide)] at H;exact H
  clear H
  have H:=H1
  clear H1
  obtain rfl:=Option.some.inj H
  go_enter Try.func8,Try.ntmps8
  go_wp2_with (first|((with_reducible refine a_s (N:=2) rfl ?_);refine a_r ?hg (N:=2) ?hd (cs:=#[.slice A0_0 l0_0.length c0_0]) (t:=26) ?hr ?_;(case hd => rfl);(case hg => rfl);(case hr => first|(go_simp;done)|(go_simp;rfl));intro b_l hg w293 hbox hb;have a_B:=a_a.mk (hbox);have i_9:=a_a.mk ((by rw [hg];exact (a_p (lup_ HB.out)) : w.heap.size ≤ b_l));have a_M:=a_a.mk ((by rw [hg];exact (a_p (lup_ HB.out)) : w.heap.size ≤ b_l));replace HB:=a_a.mk (a_j (lup_ HB.out) hb);clear hb hbox hg)|((with_reducible refine a_s (N:=3) rfl ?_);refine a_r ?hg (N:=3) ?hd (cs:=#[.int .i64 a1_0,.int .i64 a1_1,.int .i64 a1_2,.int .i64 a1_3,.int .u32 a1_4]) (t:=36) ?hr ?_;(case hd => rfl);(case hg => rfl);(case hr => first|(go_simp;done)|(go_simp;rfl));intro a_y hg w294 hbox hb;have a_o:=a_a.mk (hbox);have j_a:=a_a.mk ((by rw [hg];exact (a_p (by repeat (first|(with_reducible first|exact HB.out|apply a_g|apply a_d|apply a_h|refine a_b ?_ a_M.out)|exact HB.out))) : w.heap.size ≤ a_y));have a_N:=a_a.mk ((by rw [hg];exact (a_p (by repeat (first|(with_reducible first|exact HB.out|apply a_g|apply a_d|apply a_h|refine a_b ?_ a_M.out)|exact HB.out))) : w.heap.size ≤ a_y));have b_J:=a_a.mk ((by rw [hg];exact Nat.ne_of_lt (a_i (bup_ a_B.out)) : b_l ≠ a_y));have b_K:=a_a.mk ((by rw [hg];exact Nat.ne_of_gt (a_i (bup_ a_B.out)) : a_y ≠ b_l));replace a_B:=a_a.mk (a_c (bup_ a_B.out) hb);replace HB:=a_a.mk (a_j (by repeat (first|(with_reducible first|exact HB.out|apply a_g|apply a_d|apply a_h|refine a_b ?_ a_M.out)|exact HB.out)) hb);clear hb hbox hg)|((with_reducible refine a_z (f:=9) rfl ?_);refine b_h (some 18) rfl rfl Try.func9 (by kernel_rfl) rfl #[] rfl (by (try simp only [List.map_toArray,List.map_cons,List.map_nil]);first|done|rfl|(simp only [List.length_drop,List.length_take];rfl)) ?_;(with_reducible refine (a_A.calls k  false _ A3.out).mono ?_);rintro e w295 ⟨rfl,hb⟩;refine ⟨_,rfl,?_⟩;replace a_B:=a_a.mk (a_c (bup_ a_B.out) hb);replace a_o:=a_a.mk (a_c (bup_ a_o.out) hb);replace HB:=a_a.mk (a_j (by repeat (first|(with_reducible first|exact HB.out|apply a_g|apply a_d|apply a_h|refine a_b ?_ a_M.out|refine a_b ?_ a_N.out)|exact HB.out)) hb);(try clear hb);(try clear hb2);(try clear hk);(try clear hi)))
  go_ret
  exact ⟨by first|rfl|(simp [a_J,a_H] <;> rfl)|(simp [*, a_J,a_H] <;> rfl),by repeat (first|(with_reducible first|exact HB.out|apply a_g|apply a_d|apply a_h|refine a_b ?_ a_M.out|refine a_b ?_ a_N.out)|exact HB.out)⟩
 subst c4
 have H1 : ((a_Z.f l0_0).bind fun t476 => ((a_q.f k t476).bind fun t480 => (if t480 = 0 then ((a_Q.f k t476 a1_1 a1_4).bind fun bt481 => (if bt481.2.2 = 0 then ((a_0.f k bt481.1 bt481.2.1 a1_1).bind fun bt487 => (if bt487.2 = 0 then ((a_1.f k bt487.1 t476).bind fun t492 => (if t492 = true then ((b_s.f k bt481.1 bt481.2.1).bind fun t493 => (if t493 = a1_4 then (a_n.j0 k a1_0 a1_1 a1_2 a1_3 a1_4 t476) else (some false))) else (some false))) else (some false))) else (a_n.j0 k a1_0 a1_1 a1_2 a1_3 a1_4 t476))) else (some true)))) = some r:=by rw [if_pos rfl] at H;exact H
 clear H
 have H:=H1
 clear H1
 replace H:=Option.bind_eq_some_iff.mp H
 obtain ⟨t476,A50,H⟩:=H
 replace H : ((a_q.f k t476).bind fun t480 => (if t480 = 0 then ((a_Q.f k t476 a1_1 a1_4).bind fun bt481 => (if bt481.2.2 = 0 then ((a_0.f k bt481.1 bt481.2.1 a1_1).bind fun bt487 => (if bt487.2 = 0 then ((a_1.f k bt487.1 t476).bind fun t492 => (if t492 = true then ((b_s.f k bt481.1 bt481.2.1).bind fun t493 => (if t493 = a1_4 then (a_n.j0 k a1_0 a1_1 a1_2 a1_3 a1_4 t476) else (some false))) else (some false))) else (some false))) else (a_n.j0 k a1_0 a1_1 a1_2 a1_3 a1_4 t476))) else (some true))) = some r:=H
 have A5:=a_a.mk A50
 clear A50
 replace H:=Option.bind_eq_some_iff.mp H
 obtain ⟨t480,A60,H⟩:=H
 replace H : (if t480 = 0 then ((a_Q.f k t476 a1_1 a1_4).bind fun bt481 => (if bt481.2.2 = 0 then ((a_0.f k bt481.1 bt481.2.1 a1_1).bind fun bt487 => (if bt487.2 = 0 then ((a_1.f k bt487.1 t476).bind fun t492 => (if t492 = true then ((b_s.f k bt481.1 bt481.2.1).bind fun t493 => (if t493 = a1_4 then (a_n.j0 k a1_0 a1_1 a1_2 a1_3 a1_4 t476) else (some false))) else (some false))) else (some false))) else (a_n.j0 k a1_0 a1_1 a1_2 a1_3 a1_4 t476))) else (some true)) = some r:=H
 have A6:=a_a.mk A60
 clear A60
 by_cases c7 : t480 = 0
 rotate_left
 ·rw [if_neg c7] at H
  have c7b0 : (t480 == 0) = false:=beq_eq_false_iff_ne.mpr c7
  have c7b1 : (t480 != 0) = true:=bne_iff_ne.mpr c7
  obtain rfl:=Option.some.inj H
  go_enter Try.func8,Try.ntmps8
  go_wp2_with (first|((with_reducible refine a_s (N:=2) rfl ?_);refine a_r ?hg (N:=2) ?hd (cs:=#[.slice A0_0 l0_0.length c0_0]) (t:=26) ?hr ?_;(case hd => rfl);(case hg => rfl);(case hr => first|(go_simp;done)|(go_simp;rfl));intro b_l hg w281 hbox hb;have a_B:=a_a.mk (hbox);have i_9:=a_a.mk ((by rw [hg];exact (a_p (lup_ HB.out)) : w.heap.size ≤ b_l));have a_M:=a_a.mk ((by rw [hg];exact (a_p (lup_ HB.out)) : w.heap.size ≤ b_l));replace HB:=a_a.mk (a_j (lup_ HB.out) hb);clear hb hbox hg)|((with_reducible refine a_s (N:=3) rfl ?_);refine a_r ?hg (N:=3) ?hd (cs:=#[.int .i64 a1_0,.int .i64 a1_1,.int .i64 a1_2,.int .i64 a1_3,.int .u32 a1_4]) (t:=36) ?hr ?_;(case hd => rfl);(case hg => rfl);(case hr => first|(go_simp;done)|(go_simp;rfl));intro a_y hg w282 hbox hb;have a_o:=a_a.mk (hbox);have j_a:=a_a.mk ((by rw [hg];exact (a_p (by repeat (first|(with_reducible first|exact HB.out|apply a_g|apply a_d|apply a_h|refine a_b ?_ a_M.out)|exact HB.out))) : w.heap.size ≤ a_y));have a_N:=a_a.mk ((by rw [hg];exact (a_p (by repeat (first|(with_reducible first|exact HB.out|apply a_g|apply a_d|apply a_h|refine a_b ?_ a_M.out)|exact HB.out))) : w.heap.size ≤ a_y));have b_J:=a_a.mk ((by rw [hg];exact Nat.ne_of_lt (a_i (bup_ a_B.out)) : b_l ≠ a_y));have b_K:=a_a.mk ((by rw [hg];exact Nat.ne_of_gt (a_i (bup_ a_B.out)) : a_y ≠ b_l));replace a_B:=a_a.mk (a_c (bup_ a_B.out) hb);replace HB:=a_a.mk (a_j (by repeat (first|(with_reducible first|exact HB.out|apply a_g|apply a_d|apply a_h|refine a_b ?_ a_M.out)|exact HB.out)) hb);clear hb hbox hg)|((with_reducible refine a_z (f:=9) rfl ?_);refine b_h (some 18) rfl rfl Try.func9 (by kernel_rfl) rfl #[] rfl (by (try simp only [List.map_toArray,List.map_cons,List.map_nil]);first|done|rfl|(simp only [List.length_drop,List.length_take];rfl)) ?_;(with_reducible refine (a_A.calls k  true _ A3.out).mono ?_);rintro e w283 ⟨rfl,hb⟩;refine ⟨_,rfl,?_⟩;replace a_B:=a_a.mk (a_c (bup_ a_B.out) hb);replace a_o:=a_a.mk (a_c (bup_ a_o.out) hb);replace HB:=a_a.mk (a_j (by repeat (first|(with_reducible first|exact HB.out|apply a_g|apply a_d|apply a_h|refine a_b ?_ a_M.out|refine a_b ?_ a_N.out)|exact HB.out)) hb);(try clear hb);(try clear hb2);(try clear hk);(try clear hi);have o_E:=b_J.out;have o_F:=b_K.out;have j_b : w283.cell? ⟨b_l,0,none⟩ = some (.slice A0_0 l0_0.length c0_0):=(a_f a_B.out 0).trans rfl;have j_c:=a_e a_B.out 0)|((with_reducible refine a_z (f:=11) rfl ?_);refine b_h (some 21) rfl rfl Try.func11 (by kernel_rfl) rfl #[.agg #[.slice A0_0 l0_0.length c0_0]] rfl (by (try simp only [List.map_toArray,List.map_cons,List.map_nil]);first|done|rfl|(simp only [List.length_drop,List.length_take];rfl)) ?_;(with_reducible refine (a_Z.calls _ _ l0_0 t476 _ ?side1 ?side2 A5.out).mono ?_);(case side1 => repeat (first|exact (Kd.a_2 c_u.out HB.out)|(with_reducible refine Kd.b_a ?_ _)|(with_reducible refine Kd.b_c ?_ _)|(with_reducible refine Kd.b_p ?_)));(case side2 => exact c_L.out);rintro e w286 ⟨v477,rfl,ho0,hb⟩;refine ⟨_,rfl,?_⟩;have a_6:=a_a.mk (Kd.a_5 ho0 (a_p (by repeat (first|(with_reducible first|exact HB.out|apply a_g|apply a_d|apply a_h|refine a_b ?_ a_M.out|refine a_b ?_ a_N.out)|exact HB.out))));replace a_B:=a_a.mk (a_c (bup_ a_B.out) hb);replace a_o:=a_a.mk (a_c (bup_ a_o.out) hb);replace HB:=a_a.mk (a_j (by repeat (first|(with_reducible first|exact HB.out|apply a_g|apply a_d|apply a_h|refine a_b ?_ a_M.out|refine a_b ?_ a_N.out)|exact HB.out)) hb);(try clear hb);(try clear hb2);(try clear hk);(try clear hi);(try clear ho0))|((with_reducible refine a_s (N:=5) rfl ?_);refine a_r ?hg (N:=5) ?hd (cs:=#[.slice none 0 0]) (t:=26) ?hr ?_;(case hd => rfl);(case hg => rfl);(case hr => first|(go_simp;done)|(go_simp;rfl));intro b_d hg w287 hbox hb;have a_C:=a_a.mk (hbox);have n_E:=a_a.mk ((by rw [hg];exact (a_p (by repeat (first|(with_reducible first|exact HB.out|apply a_g|apply a_d|apply a_h|refine a_b ?_ a_M.out|refine a_b ?_ a_N.out)|exact HB.out))) : w.heap.size ≤ b_d));have a_T:=a_a.mk ((by rw [hg];exact (a_p (by repeat (first|(with_reducible first|exact HB.out|apply a_g|apply a_d|apply a_h|refine a_b ?_ a_M.out|refine a_b ?_ a_N.out)|exact HB.out))) : w.heap.size ≤ b_d));have b_V:=a_a.mk ((by rw [hg];exact Nat.ne_of_lt (a_i (bup_ a_B.out)) : b_l ≠ b_d));have c_l:=a_a.mk ((by rw [hg];exact Nat.ne_of_gt (a_i (bup_ a_B.out)) : b_d ≠ b_l));have b_F:=a_a.mk ((by rw [hg];exact Nat.ne_of_lt (a_i (bup_ a_o.out)) : a_y ≠ b_d));have b_M:=a_a.mk ((by rw [hg];exact Nat.ne_of_gt (a_i (bup_ a_o.out)) : b_d ≠ a_y));replace a_6:=a_a.mk (Kd.a_w (rup_ a_6.out) hb);replace a_B:=a_a.mk (a_c (bup_ a_B.out) hb);replace a_o:=a_a.mk (a_c (bup_ a_o.out) hb);replace HB:=a_a.mk (a_j (by repeat (first|(with_reducible first|exact HB.out|apply a_g|apply a_d|apply a_h|refine a_b ?_ a_M.out|refine a_b ?_ a_N.out)|exact HB.out)) hb);clear hb hbox hg;obtain ⟨g_W,g_u,n_F⟩:=Kd.a_4 a_6.out;subst n_F;have o_G:=c_l.out;have o_H:=b_V.out;have o_I:=b_M.out;have o_J:=b_F.out;have j_d : w287.cell? ⟨b_d,0,none⟩ = some (.slice none 0 0):=(a_f a_C.out 0).trans rfl;have j_e:=a_e a_C.out 0)|((with_reducible refine a_z (f:=17) rfl ?_);refine b_h (some 23) rfl rfl Try.func17 (by kernel_rfl) rfl #[.agg #[.slice g_W t476.length g_u]] rfl (by (try simp only [List.map_toArray,List.map_cons,List.map_nil]);first|done|rfl|(simp only [List.length_drop,List.length_take];rfl)) ?_;(with_reducible refine (a_q.calls k _ _ t476 t480 _ ?side1 ?side2 A6.out).mono ?_);(case side1 => refine (Kd.a_t (e:=31) (base:=w.heap.size) (ok:=fun k_ => True) (n:=t476.length) (c:=g_u) ?_).2.2;exact (by (with_reducible repeat (first|apply Kd.a_F|apply Kd.a_E|apply Kd.a_G));exact (Kd.a_L (Kd.a_7 (p:=⟨b_d,0,none⟩) (Kd.a_I a_6.out a_C.out (by decide)) (fun _ hk => hk.2) (.slice g_W t476.length g_u)) (fun _ h_ => h_.1))));(case side2 => exact (Kd.a_t a_6.out).2.1);rintro e w292 ⟨rfl,hb⟩;refine ⟨_,rfl,?_⟩;replace a_6:=a_a.mk (Kd.a_w (by (with_reducible repeat (first|apply Kd.a_F|apply Kd.a_E|apply Kd.a_G));exact (Kd.a_L (Kd.a_7 (p:=⟨b_d,0,none⟩) (Kd.a_I a_6.out a_C.out (by decide)) (fun _ hk => hk.2) (.slice g_W t476.length g_u)) (fun _ h_ => h_.1))) hb);replace a_B:=a_a.mk (a_c (g:=b_l) (o:=.cells #[.slice A0_0 l0_0.length c0_0] 26 (0,0)) (by (with_reducible repeat (first|refine a_l ?_ _|refine a_k ?_|refine a_m ?_ _));refine a_u ?_ b_V.out _;(with_reducible repeat (first|refine a_l ?_ _|refine a_k ?_|refine a_m ?_ _));exact a_B.out) hb);replace a_o:=a_a.mk (a_c (g:=a_y) (o:=.cells #[.int .i64 a1_0,.int .i64 a1_1,.int .i64 a1_2,.int .i64 a1_3,.int .u32 a1_4] 36 (0,0)) (by (with_reducible repeat (first|refine a_l ?_ _|refine a_k ?_|refine a_m ?_ _));refine a_u ?_ b_F.out _;(with_reducible repeat (first|refine a_l ?_ _|refine a_k ?_|refine a_m ?_ _));exact a_o.out) hb);replace a_C:=a_a.mk (a_c (g:=b_d) (o:=.cells #[.slice g_W t476.length g_u] 26 (0,0)) (by (with_reducible repeat (first|refine a_l ?_ _|refine a_k ?_|refine a_m ?_ _));refine a_R (cs:=#[.slice none 0 0]) ?_ 0 _ rfl;(with_reducible repeat (first|refine a_l ?_ _|refine a_k ?_|refine a_m ?_ _));exact a_C.out) hb);replace HB:=a_a.mk (a_j (by repeat (first|(with_reducible first|exact HB.out|apply a_g|apply a_d|apply a_h|refine a_b ?_ a_M.out|refine a_b ?_ a_N.out|refine a_b ?_ a_T.out)|exact HB.out)) hb);(try clear hb);(try clear hb2);(try clear hk);(try clear hi)))
  go_ret
  exact ⟨by first|rfl|(simp [a_J,a_H] <;> rfl)|(simp [*, a_J,a_H] <;> rfl),by repeat (first|(with_reducible first|exact HB.out|apply a_g|apply a_d|apply a_h|refine a_b ?_ a_M.out|refine a_b ?_ a_N.out|refine a_b ?_ a_T.out)|exact HB.out)⟩
 rw [if_pos c7] at H
 have c7b0 : (t480 == 0) = true:=beq_iff_eq.mpr c7
 have c7b1 : (t480 != 0) = false:=bne_eq_false_iff_eq.mpr c7
 clear c7
 replace H:=Option.bind_eq_some_iff.mp H
 obtain ⟨⟨t481,t484,t485⟩,A80,H⟩:=H
 replace H : (if t485 = 0 then ((a_0.f k t481 t484 a1_1).bind fun bt487 => (if bt487.2 = 0 then ((a_1.f k bt487.1 t476).bind fun t492 => (if t492 = true then ((b_s.f k t481 t484).bind fun t493 => (if t493 = a1_4 then (a_n.j0 k a1_0 a1_1 a1_2 a1_3 a1_4 t476) else (some false))) else (some false))) else (some false))) else (a_n.j0 k a1_0 a1_1 a1_2 a1_3 a1_4 t476)) = some r:=H
 have A8:=a_a.mk A80
 clear A80
 have HC9:=a_a.mk H
 clear H
 go_enter Try.func8,Try.ntmps8
 go_upto_if 36 with (first|((with_reducible refine a_s (N:=2) rfl ?_);refine a_r ?hg (N:=2) ?hd (cs:=#[.slice A0_0 l0_0.length c0_0]) (t:=26) ?hr ?_;(case hd => rfl);(case hg => rfl);(case hr => first|(go_simp;done)|(go_simp;rfl));intro b_l hg w10 hbox hb;have a_B:=a_a.mk (hbox);have i_9:=a_a.mk ((by rw [hg];exact (a_p (lup_ HB.out)) : w.heap.size ≤ b_l));have a_M:=a_a.mk ((by rw [hg];exact (a_p (lup_ HB.out)) : w.heap.size ≤ b_l));replace HB:=a_a.mk (a_j (lup_ HB.out) hb);clear hb hbox hg)|((with_reducible refine a_s (N:=3) rfl ?_);refine a_r ?hg (N:=3) ?hd (cs:=#[.int .i64 a1_0,.int .i64 a1_1,.int .i64 a1_2,.int .i64 a1_3,.int .u32 a1_4]) (t:=36) ?hr ?_;(case hd => rfl);(case hg => rfl);(case hr => first|(go_simp;done)|(go_simp;rfl));intro a_y hg w11 hbox hb;have a_o:=a_a.mk (hbox);have j_a:=a_a.mk ((by rw [hg];exact (a_p (by repeat (first|(with_reducible first|exact HB.out|apply a_g|apply a_d|apply a_h|refine a_b ?_ a_M.out)|exact HB.out))) : w.heap.size ≤ a_y));have a_N:=a_a.mk ((by rw [hg];exact (a_p (by repeat (first|(with_reducible first|exact HB.out|apply a_g|apply a_d|apply a_h|refine a_b ?_ a_M.out)|exact HB.out))) : w.heap.size ≤ a_y));have b_J:=a_a.mk ((by rw [hg];exact Nat.ne_of_lt (a_i (bup_ a_B.out)) : b_l ≠ a_y));have b_K:=a_a.mk ((by rw [hg];exact Nat.ne_of_gt (a_i (bup_ a_B.out)) : a_y ≠ b_l));replace a_B:=a_a.mk (a_c (bup_ a_B.out) hb);replace HB:=a_a.mk (a_j (by repeat (first|(with_reducible first|exact HB.out|apply a_g|apply a_d|apply a_h|refine a_b ?_ a_M.out)|exact HB.out)) hb);clear hb hbox hg)|((with_reducible refine a_z (f:=9) rfl ?_);refine b_h (some 18) rfl rfl Try.func9 (by kernel_rfl) rfl #[] rfl (by (try simp only [List.map_toArray,List.map_cons,List.map_nil]);first|done|rfl|(simp only [List.length_drop,List.length_take];rfl)) ?_;(with_reducible refine (a_A.calls k  true _ A3.out).mono ?_);rintro e w12 ⟨rfl,hb⟩;refine ⟨_,rfl,?_⟩;replace a_B:=a_a.mk (a_c (bup_ a_B.out) hb);replace a_o:=a_a.mk (a_c (bup_ a_o.out) hb);replace HB:=a_a.mk (a_j (by repeat (first|(with_reducible first|exact HB.out|apply a_g|apply a_d|apply a_h|refine a_b ?_ a_M.out|refine a_b ?_ a_N.out)|exact HB.out)) hb);(try clear hb);(try clear hb2);(try clear hk);(try clear hi);have r_S:=b_J.out;have r_T:=b_K.out;have n_G : w12.cell? ⟨b_l,0,none⟩ = some (.slice A0_0 l0_0.length c0_0):=(a_f a_B.out 0).trans rfl;have n_H:=a_e a_B.out 0)|((with_reducible refine a_z (f:=11) rfl ?_);refine b_h (some 21) rfl rfl Try.func11 (by kernel_rfl) rfl #[.agg #[.slice A0_0 l0_0.length c0_0]] rfl (by (try simp only [List.map_toArray,List.map_cons,List.map_nil]);first|done|rfl|(simp only [List.length_drop,List.length_take];rfl)) ?_;(with_reducible refine (a_Z.calls _ _ l0_0 t476 _ ?side1 ?side2 A5.out).mono ?_);(case side1 => repeat (first|exact (Kd.a_2 c_u.out HB.out)|(with_reducible refine Kd.b_a ?_ _)|(with_reducible refine Kd.b_c ?_ _)|(with_reducible refine Kd.b_p ?_)));(case side2 => exact c_L.out);rintro e w15 ⟨v477,rfl,ho0,hb⟩;refine ⟨_,rfl,?_⟩;have a_6:=a_a.mk (Kd.a_5 ho0 (a_p (by repeat (first|(with_reducible first|exact HB.out|apply a_g|apply a_d|apply a_h|refine a_b ?_ a_M.out|refine a_b ?_ a_N.out)|exact HB.out))));replace a_B:=a_a.mk (a_c (bup_ a_B.out) hb);replace a_o:=a_a.mk (a_c (bup_ a_o.out) hb);replace HB:=a_a.mk (a_j (by repeat (first|(with_reducible first|exact HB.out|apply a_g|apply a_d|apply a_h|refine a_b ?_ a_M.out|refine a_b ?_ a_N.out)|exact HB.out)) hb);(try clear hb);(try clear hb2);(try clear hk);(try clear hi);(try clear ho0))|((with_reducible refine a_s (N:=5) rfl ?_);refine a_r ?hg (N:=5) ?hd (cs:=#[.slice none 0 0]) (t:=26) ?hr ?_;(case hd => rfl);(case hg => rfl);(case hr => first|(go_simp;done)|(go_simp;rfl));intro b_d hg w16 hbox hb;have a_C:=a_a.mk (hbox);have n_E:=a_a.mk ((by rw [hg];exact (a_p (by repeat (first|(with_reducible first|exact HB.out|apply a_g|apply a_d|apply a_h|refine a_b ?_ a_M.out|refine a_b ?_ a_N.out)|exact HB.out))) : w.heap.size ≤ b_d));have a_T:=a_a.mk ((by rw [hg];exact (a_p (by repeat (first|(with_reducible first|exact HB.out|apply a_g|apply a_d|apply a_h|refine a_b ?_ a_M.out|refine a_b ?_ a_N.out)|exact HB.out))) : w.heap.size ≤ b_d));have b_V:=a_a.mk ((by rw [hg];exact Nat.ne_of_lt (a_i (bup_ a_B.out)) : b_l ≠ b_d));have c_l:=a_a.mk ((by rw [hg];exact Nat.ne_of_gt (a_i (bup_ a_B.out)) : b_d ≠ b_l));have b_F:=a_a.mk ((by rw [hg];exact Nat.ne_of_lt (a_i (bup_ a_o.out)) : a_y ≠ b_d));have b_M:=a_a.mk ((by rw [hg];exact Nat.ne_of_gt (a_i (bup_ a_o.out)) : b_d ≠ a_y));replace a_6:=a_a.mk (Kd.a_w (rup_ a_6.out) hb);replace a_B:=a_a.mk (a_c (bup_ a_B.out) hb);replace a_o:=a_a.mk (a_c (bup_ a_o.out) hb);replace HB:=a_a.mk (a_j (by repeat (first|(with_reducible first|exact HB.out|apply a_g|apply a_d|apply a_h|refine a_b ?_ a_M.out|refine a_b ?_ a_N.out)|exact HB.out)) hb);clear hb hbox hg;obtain ⟨Ao17,co17,eo17⟩:=Kd.a_4 a_6.out;subst eo17;have r_U:=c_l.out;have r_V:=b_V.out;have r_W:=b_M.out;have r_X:=b_F.out;have n_I : w16.cell? ⟨b_d,0,none⟩ = some (.slice none 0 0):=(a_f a_C.out 0).trans rfl;have n_J:=a_e a_C.out 0)|((with_reducible refine a_z (f:=17) rfl ?_);refine b_h (some 23) rfl rfl Try.func17 (by kernel_rfl) rfl #[.agg #[.slice Ao17 t476.length co17]] rfl (by (try simp only [List.map_toArray,List.map_cons,List.map_nil]);first|done|rfl|(simp only [List.length_drop,List.length_take];rfl)) ?_;(with_reducible refine (a_q.calls k _ _ t476 t480 _ ?side1 ?side2 A6.out).mono ?_);(case side1 => refine (Kd.a_t (e:=31) (base:=w.heap.size) (ok:=fun k_ => True) (n:=t476.length) (c:=co17) ?_).2.2;exact (by (with_reducible repeat (first|apply Kd.a_F|apply Kd.a_E|apply Kd.a_G));exact (Kd.a_L (Kd.a_7 (p:=⟨b_d,0,none⟩) (Kd.a_I a_6.out a_C.out (by decide)) (fun _ hk => hk.2) (.slice Ao17 t476.length co17)) (fun _ h_ => h_.1))));(case side2 => exact (Kd.a_t a_6.out).2.1);rintro e w21 ⟨rfl,hb⟩;refine ⟨_,rfl,?_⟩;replace a_6:=a_a.mk (Kd.a_w (by (with_reducible repeat (first|apply Kd.a_F|apply Kd.a_E|apply Kd.a_G));exact (Kd.a_L (Kd.a_7 (p:=⟨b_d,0,none⟩) (Kd.a_I a_6.out a_C.out (by decide)) (fun _ hk => hk.2) (.slice Ao17 t476.length co17)) (fun _ h_ => h_.1))) hb);replace a_B:=a_a.mk (a_c (g:=b_l) (o:=.cells #[.slice A0_0 l0_0.length c0_0] 26 (0,0)) (by (with_reducible repeat (first|refine a_l ?_ _|refine a_k ?_|refine a_m ?_ _));refine a_u ?_ b_V.out _;(with_reducible repeat (first|refine a_l ?_ _|refine a_k ?_|refine a_m ?_ _));exact a_B.out) hb);replace a_o:=a_a.mk (a_c (g:=a_y) (o:=.cells #[.int .i64 a1_0,.int .i64 a1_1,.int .i64 a1_2,.int .i64 a1_3,.int .u32 a1_4] 36 (0,0)) (by (with_reducible repeat (first|refine a_l ?_ _|refine a_k ?_|refine a_m ?_ _));refine a_u ?_ b_F.out _;(with_reducible repeat (first|refine a_l ?_ _|refine a_k ?_|refine a_m ?_ _));exact a_o.out) hb);replace a_C:=a_a.mk (a_c (g:=b_d) (o:=.cells #[.slice Ao17 t476.length co17] 26 (0,0)) (by (with_reducible repeat (first|refine a_l ?_ _|refine a_k ?_|refine a_m ?_ _));refine a_R (cs:=#[.slice none 0 0]) ?_ 0 _ rfl;(with_reducible repeat (first|refine a_l ?_ _|refine a_k ?_|refine a_m ?_ _));exact a_C.out) hb);replace HB:=a_a.mk (a_j (by repeat (first|(with_reducible first|exact HB.out|apply a_g|apply a_d|apply a_h|refine a_b ?_ a_M.out|refine a_b ?_ a_N.out|refine a_b ?_ a_T.out)|exact HB.out)) hb);(try clear hb);(try clear hb2);(try clear hk);(try clear hi);have n_K : w21.cell? ⟨b_d,0,none⟩ = some (.slice Ao17 t476.length co17):=(a_f a_C.out 0).trans rfl;have n_L:=a_e a_C.out 0;have n_M : w21.cell? ⟨a_y,0,none⟩ = some (.int .i64 a1_0):=(a_f a_o.out 0).trans rfl;have n_N : w21.cell? ⟨a_y,1,none⟩ = some (.int .i64 a1_1):=(a_f a_o.out 1).trans rfl;have n_O : w21.cell? ⟨a_y,2,none⟩ = some (.int .i64 a1_2):=(a_f a_o.out 2).trans rfl;have n_P : w21.cell? ⟨a_y,3,none⟩ = some (.int .i64 a1_3):=(a_f a_o.out 3).trans rfl;have n_Q : w21.cell? ⟨a_y,4,none⟩ = some (.int .u32 a1_4):=(a_f a_o.out 4).trans rfl;have n_R:=a_e a_o.out 0;have n_S:=a_e a_o.out 1;have n_T:=a_e a_o.out 2;have n_U:=a_e a_o.out 3;have n_V:=a_e a_o.out 4)|((with_reducible refine a_z (f:=29) rfl ?_);refine b_h (some 31) rfl rfl Try.func29 (by kernel_rfl) rfl #[.agg #[.slice Ao17 t476.length co17],.int .i64 a1_1,.int .u32 a1_4] rfl (by (try simp only [List.map_toArray,List.map_cons,List.map_nil]);first|done|rfl|(simp only [List.length_drop,List.length_take];rfl)) ?_;(with_reducible refine (a_Q.calls k _ _ t476 a1_1 a1_4 t481 t484 t485 _ ?side1 ?side2 A8.out).mono ?_);(case side1 => repeat (first|exact (Kd.a_t a_6.out).2.2|(with_reducible refine Kd.b_a ?_ _)|(with_reducible refine Kd.b_c ?_ _)|(with_reducible refine Kd.b_p ?_)));(case side2 => exact (Kd.a_t a_6.out).2.1);rintro e w24 ⟨v482,rfl,ho0,hb⟩;refine ⟨_,rfl,?_⟩;have b_j:=a_a.mk (Kd.a_5 (Kd.b_r ho0 (Kd.R_lt (rup_ a_6.out))) (a_p (by repeat (first|(with_reducible first|exact HB.out|apply a_g|apply a_d|apply a_h|refine a_b ?_ a_M.out|refine a_b ?_ a_N.out|refine a_b ?_ a_T.out)|exact HB.out))));replace a_6:=a_a.mk (Kd.a_V (rup_ a_6.out) (Kd.b_n ho0) hb);replace a_B:=a_a.mk (a_c (bup_ a_B.out) hb);replace a_o:=a_a.mk (a_c (bup_ a_o.out) hb);replace a_C:=a_a.mk (a_c (bup_ a_C.out) hb);replace HB:=a_a.mk (a_j (by repeat (first|(with_reducible first|exact HB.out|apply a_g|apply a_d|apply a_h|refine a_b ?_ a_M.out|refine a_b ?_ a_N.out|refine a_b ?_ a_T.out)|exact HB.out)) hb);(try clear hb);(try clear hb2);(try clear hk);(try clear hi);(try clear ho0))|((with_reducible refine a_s (N:=6) rfl ?_);refine a_r ?hg (N:=6) ?hd (cs:=#[.slice none 0 0]) (t:=26) ?hr ?_;(case hd => rfl);(case hg => rfl);(case hr => first|(go_simp;done)|(go_simp;rfl));intro a_9 hg w25 hbox hb;have a_D:=a_a.mk (hbox);have r_Y:=a_a.mk ((by rw [hg];exact (a_p (by repeat (first|(with_reducible first|exact HB.out|apply a_g|apply a_d|apply a_h|refine a_b ?_ a_M.out|refine a_b ?_ a_N.out|refine a_b ?_ a_T.out)|exact HB.out))) : w.heap.size ≤ a_9));have a_X:=a_a.mk ((by rw [hg];exact (a_p (by repeat (first|(with_reducible first|exact HB.out|apply a_g|apply a_d|apply a_h|refine a_b ?_ a_M.out|refine a_b ?_ a_N.out|refine a_b ?_ a_T.out)|exact HB.out))) : w.heap.size ≤ a_9));have c_a:=a_a.mk ((by rw [hg];exact Nat.ne_of_lt (a_i (bup_ a_B.out)) : b_l ≠ a_9));have d_a:=a_a.mk ((by rw [hg];exact Nat.ne_of_gt (a_i (bup_ a_B.out)) : a_9 ≠ b_l));have b_y:=a_a.mk ((by rw [hg];exact Nat.ne_of_lt (a_i (bup_ a_o.out)) : a_y ≠ a_9));have b_W:=a_a.mk ((by rw [hg];exact Nat.ne_of_gt (a_i (bup_ a_o.out)) : a_9 ≠ a_y));have b_z:=a_a.mk ((by rw [hg];exact Nat.ne_of_lt (a_i (bup_ a_C.out)) : b_d ≠ a_9));have b_X:=a_a.mk ((by rw [hg];exact Nat.ne_of_gt (a_i (bup_ a_C.out)) : a_9 ≠ b_d));replace a_6:=a_a.mk (Kd.a_w (rup_ a_6.out) hb);replace b_j:=a_a.mk (Kd.a_w (rup_ b_j.out) hb);replace a_B:=a_a.mk (a_c (bup_ a_B.out) hb);replace a_o:=a_a.mk (a_c (bup_ a_o.out) hb);replace a_C:=a_a.mk (a_c (bup_ a_C.out) hb);replace HB:=a_a.mk (a_j (by repeat (first|(with_reducible first|exact HB.out|apply a_g|apply a_d|apply a_h|refine a_b ?_ a_M.out|refine a_b ?_ a_N.out|refine a_b ?_ a_T.out)|exact HB.out)) hb);clear hb hbox hg;obtain ⟨Ao26,co26,eo26⟩:=Kd.a_4 b_j.out;subst eo26;have r_Z:=d_a.out;have r_0:=c_a.out;have r_1:=b_W.out;have r_2:=b_y.out;have r_3:=b_X.out;have r_4:=b_z.out;have n_W : w25.cell? ⟨a_9,0,none⟩ = some (.slice none 0 0):=(a_f a_D.out 0).trans rfl;have n_X:=a_e a_D.out 0))
 (try simp only [Act.put,List.setIfInBounds_toArray,List.set_cons_zero,List.set_cons_succ])
 go_cut [] (fun wc => ∃ (kq : Nat),a_a (a_n.j0 kq a1_0 a1_1 a1_2 a1_3 a1_4 t476 = some r) ∧ a_a (kq ≤ k) ∧ a_a (Kd.R (Kd.int .u32) 31 wc w.heap.size (fun k_ => some k_ ≠ ((.slice Ao26 t481.length co26) : Value).ownBlock) (.slice Ao17 t476.length co17) t476) ∧ a_a (Kd.R (Kd.int .u32) 31 wc w.heap.size (fun k_ => some k_ ≠ ((.slice Ao17 t476.length co17) : Value).ownBlock) (.slice Ao26 t481.length co26) t481) ∧ a_a (wc.heap[b_l]? = some (.cells #[(.slice A0_0 l0_0.length c0_0)] 26 (0,0))) ∧ a_a (wc.heap[a_y]? = some (.cells #[.int .i64 a1_0,.int .i64 a1_1,.int .i64 a1_2,.int .i64 a1_3,.int .u32 a1_4] 36 (0,0))) ∧ a_a (wc.heap[b_d]? = some (.cells #[(.slice Ao17 t476.length co17)] 26 (0,0))) ∧ a_a (wc.heap[a_9]? = some (.cells #[(.slice Ao26 t481.length co26)] 26 (0,0))) ∧ a_a (Below w.heap.size w wc))
 case first =>
  have H:=HC9.out
  clear HC9
  by_cases c31 : t485 = 0
  rotate_left
  ·rw [if_neg c31] at H
   have c31b0 : (t485 == 0) = false:=beq_eq_false_iff_ne.mpr c31
   have c31b1 : (t485 != 0) = true:=bne_iff_ne.mpr c31
   (first|rw [c31b0]|(simp only [b_m,b_o];rw [c31b0])|skip)
   have H':=a_a.mk H
   clear H
   go_wp2
   go_meet
   case rel => exact ⟨_,H',⟨by first|omega|exact Nat.le_refl _⟩,⟨by (with_reducible repeat (first|apply Kd.a_F|apply Kd.a_E|apply Kd.a_G));exact Kd.a_L (Kd.a_7 (p:=⟨a_9,0,none⟩) (Kd.a_I a_6.out a_D.out (by decide)) (fun _ hk => hk.2) (.slice Ao26 t481.length co26)) (fun _ hk => hk.1.2)⟩,⟨by (with_reducible repeat (first|apply Kd.a_F|apply Kd.a_E|apply Kd.a_G));exact Kd.a_L (Kd.a_7 (p:=⟨a_9,0,none⟩) (Kd.a_I b_j.out a_D.out (by decide)) (fun _ hk => hk.2) (.slice Ao26 t481.length co26)) (fun _ hk => hk.1.2)⟩,⟨by (with_reducible repeat (first|refine a_l ?_ _|refine a_k ?_|refine a_m ?_ _));refine a_u ?_ c_a.out _;(with_reducible repeat (first|refine a_l ?_ _|refine a_k ?_|refine a_m ?_ _));exact a_B.out⟩,⟨by (with_reducible repeat (first|refine a_l ?_ _|refine a_k ?_|refine a_m ?_ _));refine a_u ?_ b_y.out _;(with_reducible repeat (first|refine a_l ?_ _|refine a_k ?_|refine a_m ?_ _));exact a_o.out⟩,⟨by (with_reducible repeat (first|refine a_l ?_ _|refine a_k ?_|refine a_m ?_ _));refine a_u ?_ b_z.out _;(with_reducible repeat (first|refine a_l ?_ _|refine a_k ?_|refine a_m ?_ _));exact a_C.out⟩,⟨by (with_reducible repeat (first|refine a_l ?_ _|refine a_k ?_|refine a_m ?_ _));refine a_R (cs:=#[.slice none 0 0]) ?_ 0 _ rfl;(with_reducible repeat (first|refine a_l ?_ _|refine a_k ?_|refine a_m ?_ _));exact a_D.out⟩,⟨by repeat (first|(with_reducible first|exact HB.out|apply a_g|apply a_d|apply a_h|refine a_b ?_ a_M.out|refine a_b ?_ a_N.out|refine a_b ?_ a_T.out|refine a_b ?_ a_X.out)|exact HB.out)⟩⟩
  rw [if_pos c31] at H
  have c31b0 : (t485 == 0) = true:=beq_iff_eq.mpr c31
  have c31b1 : (t485 != 0) = false:=bne_eq_false_iff_eq.mpr c31
  clear c31
  (first|rw [c31b0]|(simp only [b_m,b_o];rw [c31b0])|skip)
  replace H:=Option.bind_eq_some_iff.mp H
  obtain ⟨⟨t487,t490⟩,A320,H⟩:=H
  replace H : (if t490 = 0 then ((a_1.f k t487 t476).bind fun t492 => (if t492 = true then ((b_s.f k t481 t484).bind fun t493 => (if t493 = a1_4 then (a_n.j0 k a1_0 a1_1 a1_2 a1_3 a1_4 t476) else (some false))) else (some false))) else (some false)) = some r:=H
  have A32:=a_a.mk A320
  clear A320
  by_cases c33 : t490 = 0
  rotate_left
  ·rw [if_neg c33] at H
   have c33b0 : (t490 == 0) = false:=beq_eq_false_iff_ne.mpr c33
   have c33b1 : (t490 != 0) = true:=bne_iff_ne.mpr c33
   obtain rfl:=Option.some.inj H
   have r_5:=d_a.out
   have r_6:=c_a.out
   have r_7:=b_W.out
   have r_8:=b_y.out
   have r_9:=b_X.out
   have s_a:=b_z.out
   have i_i : w25.cell? ⟨a_9,0,none⟩ = some (.slice none 0 0):=(a_f a_D.out 0).trans rfl
   have i_j:=a_e a_D.out 0
   have s_b:=b_K.out
   have s_d:=b_J.out
   have s_e:=b_F.out
   have s_f:=b_M.out
   have g_X : w25.cell? ⟨a_y,0,none⟩ = some (.int .i64 a1_0):=(a_f a_o.out 0).trans rfl
   have g_Y : w25.cell? ⟨a_y,1,none⟩ = some (.int .i64 a1_1):=(a_f a_o.out 1).trans rfl
   have g_Z : w25.cell? ⟨a_y,2,none⟩ = some (.int .i64 a1_2):=(a_f a_o.out 2).trans rfl
   have g_0 : w25.cell? ⟨a_y,3,none⟩ = some (.int .i64 a1_3):=(a_f a_o.out 3).trans rfl
   have g_1 : w25.cell? ⟨a_y,4,none⟩ = some (.int .u32 a1_4):=(a_f a_o.out 4).trans rfl
   have g_2:=a_e a_o.out 0
   have g_3:=a_e a_o.out 1
   have g_4:=a_e a_o.out 2
   have g_5:=a_e a_o.out 3
   have g_6:=a_e a_o.out 4
   try go_wp2_with (first|((with_reducible refine a_z (f:=30) rfl ?_);refine b_h (some 42) rfl rfl Try.func30 (by kernel_rfl) rfl #[.agg #[.slice Ao26 t481.length co26],.int .i64 t484,.int .i64 a1_1] rfl (by (try simp only [List.map_toArray,List.map_cons,List.map_nil]);first|done|rfl|(simp only [List.length_drop,List.length_take];rfl)) ?_;(with_reducible refine (a_0.calls k _ _ t481 t484 a1_1 t487 t490 _ ?side1 ?side2 A32.out).mono ?_);(case side1 => refine (Kd.a_t (e:=31) (base:=w.heap.size) (ok:=fun k_ => (True ∧ some k_ ≠ (.slice Ao17 t476.length co17 : Value).ownBlock)) (n:=t481.length) (c:=co26) ?_).2.2;exact (by (with_reducible repeat (first|apply Kd.a_F|apply Kd.a_E|apply Kd.a_G));exact (Kd.a_L (Kd.a_7 (p:=⟨a_9,0,none⟩) (Kd.a_I b_j.out a_D.out (by decide)) (fun _ hk => hk.2) (.slice Ao26 t481.length co26)) (fun _ h_ => h_.1))));(case side2 => exact (Kd.a_t b_j.out).2.1);rintro e w101 ⟨v488,rfl,ho0,hb⟩;refine ⟨_,rfl,?_⟩;have b_v:=a_a.mk (Kd.a_5 (Kd.b_r (Kd.b_r ho0 (Kd.R_lt (by (with_reducible repeat (first|apply Kd.a_F|apply Kd.a_E|apply Kd.a_G));exact (Kd.a_L (Kd.a_7 (p:=⟨a_9,0,none⟩) (Kd.a_I a_6.out a_D.out (by decide)) (fun _ hk => hk.2) (.slice Ao26 t481.length co26)) (fun _ h_ => h_.1))))) (Kd.R_lt (by (with_reducible repeat (first|apply Kd.a_F|apply Kd.a_E|apply Kd.a_G));exact (Kd.a_L (Kd.a_7 (p:=⟨a_9,0,none⟩) (Kd.a_I b_j.out a_D.out (by decide)) (fun _ hk => hk.2) (.slice Ao26 t481.length co26)) (fun _ h_ => h_.1))))) (a_p (by repeat (first|(with_reducible first|exact HB.out|apply a_g|apply a_d|apply a_h|refine a_b ?_ a_M.out|refine a_b ?_ a_N.out|refine a_b ?_ a_T.out|refine a_b ?_ a_X.out)|exact HB.out))));replace a_6:=a_a.mk (Kd.a_V (by (with_reducible repeat (first|apply Kd.a_F|apply Kd.a_E|apply Kd.a_G));exact (Kd.a_L (Kd.a_7 (p:=⟨a_9,0,none⟩) (Kd.a_I a_6.out a_D.out (by decide)) (fun _ hk => hk.2) (.slice Ao26 t481.length co26)) (fun _ h_ => h_.1))) (Kd.b_n ho0) hb);replace b_j:=a_a.mk (Kd.a_V (by (with_reducible repeat (first|apply Kd.a_F|apply Kd.a_E|apply Kd.a_G));exact (Kd.a_L (Kd.a_7 (p:=⟨a_9,0,none⟩) (Kd.a_I b_j.out a_D.out (by decide)) (fun _ hk => hk.2) (.slice Ao26 t481.length co26)) (fun _ h_ => h_.1))) (Kd.b_n ho0) hb);replace a_B:=a_a.mk (a_c (g:=b_l) (o:=.cells #[.slice A0_0 l0_0.length c0_0] 26 (0,0)) (by (with_reducible repeat (first|refine a_l ?_ _|refine a_k ?_|refine a_m ?_ _));refine a_u ?_ c_a.out _;(with_reducible repeat (first|refine a_l ?_ _|refine a_k ?_|refine a_m ?_ _));exact a_B.out) hb);replace a_o:=a_a.mk (a_c (g:=a_y) (o:=.cells #[.int .i64 a1_0,.int .i64 a1_1,.int .i64 a1_2,.int .i64 a1_3,.int .u32 a1_4] 36 (0,0)) (by (with_reducible repeat (first|refine a_l ?_ _|refine a_k ?_|refine a_m ?_ _));refine a_u ?_ b_y.out _;(with_reducible repeat (first|refine a_l ?_ _|refine a_k ?_|refine a_m ?_ _));exact a_o.out) hb);replace a_C:=a_a.mk (a_c (g:=b_d) (o:=.cells #[.slice Ao17 t476.length co17] 26 (0,0)) (by (with_reducible repeat (first|refine a_l ?_ _|refine a_k ?_|refine a_m ?_ _));refine a_u ?_ b_z.out _;(with_reducible repeat (first|refine a_l ?_ _|refine a_k ?_|refine a_m ?_ _));exact a_C.out) hb);replace a_D:=a_a.mk (a_c (g:=a_9) (o:=.cells #[.slice Ao26 t481.length co26] 26 (0,0)) (by (with_reducible repeat (first|refine a_l ?_ _|refine a_k ?_|refine a_m ?_ _));refine a_R (cs:=#[.slice none 0 0]) ?_ 0 _ rfl;(with_reducible repeat (first|refine a_l ?_ _|refine a_k ?_|refine a_m ?_ _));exact a_D.out) hb);replace HB:=a_a.mk (a_j (by repeat (first|(with_reducible first|exact HB.out|apply a_g|apply a_d|apply a_h|refine a_b ?_ a_M.out|refine a_b ?_ a_N.out|refine a_b ?_ a_T.out|refine a_b ?_ a_X.out)|exact HB.out)) hb);(try clear hb);(try clear hb2);(try clear hk);(try clear hi);(try clear ho0))|((with_reducible refine a_s (N:=9) rfl ?_);refine a_r ?hg (N:=9) ?hd (cs:=#[.slice none 0 0]) (t:=26) ?hr ?_;(case hd => rfl);(case hg => rfl);(case hr => first|(go_simp;done)|(go_simp;rfl));intro a_W hg w102 hbox hb;have b_q:=a_a.mk (hbox);have i_k:=a_a.mk ((by rw [hg];exact (a_p (by repeat (first|(with_reducible first|exact HB.out|apply a_g|apply a_d|apply a_h|refine a_b ?_ a_M.out|refine a_b ?_ a_N.out|refine a_b ?_ a_T.out|refine a_b ?_ a_X.out)|exact HB.out))) : w.heap.size ≤ a_W));have d_g:=a_a.mk ((by rw [hg];exact (a_p (by repeat (first|(with_reducible first|exact HB.out|apply a_g|apply a_d|apply a_h|refine a_b ?_ a_M.out|refine a_b ?_ a_N.out|refine a_b ?_ a_T.out|refine a_b ?_ a_X.out)|exact HB.out))) : w.heap.size ≤ a_W));have b_Y:=a_a.mk ((by rw [hg];exact Nat.ne_of_lt (a_i (bup_ a_B.out)) : b_l ≠ a_W));have c_E:=a_a.mk ((by rw [hg];exact Nat.ne_of_gt (a_i (bup_ a_B.out)) : a_W ≠ b_l));have b_Z:=a_a.mk ((by rw [hg];exact Nat.ne_of_lt (a_i (bup_ a_o.out)) : a_y ≠ a_W));have c_F:=a_a.mk ((by rw [hg];exact Nat.ne_of_gt (a_i (bup_ a_o.out)) : a_W ≠ a_y));have b_0:=a_a.mk ((by rw [hg];exact Nat.ne_of_lt (a_i (bup_ a_C.out)) : b_d ≠ a_W));have c_G:=a_a.mk ((by rw [hg];exact Nat.ne_of_gt (a_i (bup_ a_C.out)) : a_W ≠ b_d));have b_1:=a_a.mk ((by rw [hg];exact Nat.ne_of_lt (a_i (bup_ a_D.out)) : a_9 ≠ a_W));have c_H:=a_a.mk ((by rw [hg];exact Nat.ne_of_gt (a_i (bup_ a_D.out)) : a_W ≠ a_9));replace a_6:=a_a.mk (Kd.a_w (rup_ a_6.out) hb);replace b_j:=a_a.mk (Kd.a_w (rup_ b_j.out) hb);replace b_v:=a_a.mk (Kd.a_w (rup_ b_v.out) hb);replace a_B:=a_a.mk (a_c (bup_ a_B.out) hb);replace a_o:=a_a.mk (a_c (bup_ a_o.out) hb);replace a_C:=a_a.mk (a_c (bup_ a_C.out) hb);replace a_D:=a_a.mk (a_c (bup_ a_D.out) hb);replace HB:=a_a.mk (a_j (by repeat (first|(with_reducible first|exact HB.out|apply a_g|apply a_d|apply a_h|refine a_b ?_ a_M.out|refine a_b ?_ a_N.out|refine a_b ?_ a_T.out|refine a_b ?_ a_X.out)|exact HB.out)) hb);clear hb hbox hg;obtain ⟨d_b,d_c,n_Y⟩:=Kd.a_4 b_v.out;subst n_Y;have o_K:=c_E.out;have o_L:=b_Y.out;have o_M:=c_F.out;have o_N:=b_Z.out;have o_O:=c_G.out;have o_P:=b_0.out;have o_Q:=c_H.out;have o_R:=b_1.out;have g_7 : w102.cell? ⟨a_W,0,none⟩ = some (.slice none 0 0):=(a_f b_q.out 0).trans rfl;have g_8:=a_e b_q.out 0))
   have n0_ : a_a (Kd.R (Kd.int .u32) 31 (w102.setCell ⟨a_W,0,none⟩ (.slice d_b t487.length d_c)) w.heap.size (fun k_ => some k_ ≠ (.slice Ao26 t481.length co26 : Value).ownBlock ∧ some k_ ≠ (.slice d_b t487.length d_c : Value).ownBlock) (.slice Ao17 t476.length co17) t476):=⟨by (with_reducible repeat (first|apply Kd.a_F|apply Kd.a_E|apply Kd.a_G));exact Kd.a_L (Kd.a_7 (p:=⟨a_W,0,none⟩) (Kd.a_I a_6.out b_q.out (by decide)) (fun _ hk => hk.2) (.slice d_b t487.length d_c)) (fun _ hk => ⟨hk.1.1.2,hk.1.2⟩)⟩
   have n1_ : a_a (Kd.R (Kd.int .u32) 31 (w102.setCell ⟨a_W,0,none⟩ (.slice d_b t487.length d_c)) w.heap.size (fun k_ => some k_ ≠ (.slice Ao17 t476.length co17 : Value).ownBlock ∧ some k_ ≠ (.slice d_b t487.length d_c : Value).ownBlock) (.slice Ao26 t481.length co26) t481):=⟨by (with_reducible repeat (first|apply Kd.a_F|apply Kd.a_E|apply Kd.a_G));exact Kd.a_L (Kd.a_7 (p:=⟨a_W,0,none⟩) (Kd.a_I b_j.out b_q.out (by decide)) (fun _ hk => hk.2) (.slice d_b t487.length d_c)) (fun _ hk => ⟨hk.1.1.2,hk.1.2⟩)⟩
   have n2_ : a_a (Kd.R (Kd.int .u32) 31 (w102.setCell ⟨a_W,0,none⟩ (.slice d_b t487.length d_c)) w.heap.size (fun k_ => some k_ ≠ (.slice Ao17 t476.length co17 : Value).ownBlock ∧ some k_ ≠ (.slice Ao26 t481.length co26 : Value).ownBlock) (.slice d_b t487.length d_c) t487):=⟨by (with_reducible repeat (first|apply Kd.a_F|apply Kd.a_E|apply Kd.a_G));exact Kd.a_L (Kd.a_7 (p:=⟨a_W,0,none⟩) (Kd.a_I b_v.out b_q.out (by decide)) (fun _ hk => hk.2) (.slice d_b t487.length d_c)) (fun _ hk => ⟨hk.1.1.2,hk.1.2⟩)⟩
   have n3_ : a_a ((w102.setCell ⟨a_W,0,none⟩ (.slice d_b t487.length d_c)).heap[b_l]? = some (.cells #[.slice A0_0 l0_0.length c0_0] 26 (0,0))):=⟨by (with_reducible repeat (first|refine a_l ?_ _|refine a_k ?_|refine a_m ?_ _));refine a_u ?_ b_Y.out _;(with_reducible repeat (first|refine a_l ?_ _|refine a_k ?_|refine a_m ?_ _));exact a_B.out⟩
   have n4_ : a_a ((w102.setCell ⟨a_W,0,none⟩ (.slice d_b t487.length d_c)).heap[a_y]? = some (.cells #[.int .i64 a1_0,.int .i64 a1_1,.int .i64 a1_2,.int .i64 a1_3,.int .u32 a1_4] 36 (0,0))):=⟨by (with_reducible repeat (first|refine a_l ?_ _|refine a_k ?_|refine a_m ?_ _));refine a_u ?_ b_Z.out _;(with_reducible repeat (first|refine a_l ?_ _|refine a_k ?_|refine a_m ?_ _));exact a_o.out⟩
   have n5_ : a_a ((w102.setCell ⟨a_W,0,none⟩ (.slice d_b t487.length d_c)).heap[b_d]? = some (.cells #[.slice Ao17 t476.length co17] 26 (0,0))):=⟨by (with_reducible repeat (first|refine a_l ?_ _|refine a_k ?_|refine a_m ?_ _));refine a_u ?_ b_0.out _;(with_reducible repeat (first|refine a_l ?_ _|refine a_k ?_|refine a_m ?_ _));exact a_C.out⟩
   have n6_ : a_a ((w102.setCell ⟨a_W,0,none⟩ (.slice d_b t487.length d_c)).heap[a_9]? = some (.cells #[.slice Ao26 t481.length co26] 26 (0,0))):=⟨by (with_reducible repeat (first|refine a_l ?_ _|refine a_k ?_|refine a_m ?_ _));refine a_u ?_ b_1.out _;(with_reducible repeat (first|refine a_l ?_ _|refine a_k ?_|refine a_m ?_ _));exact a_D.out⟩
   have n7_ : a_a ((w102.setCell ⟨a_W,0,none⟩ (.slice d_b t487.length d_c)).heap[a_W]? = some (.cells #[.slice d_b t487.length d_c] 26 (0,0))):=⟨by (with_reducible repeat (first|refine a_l ?_ _|refine a_k ?_|refine a_m ?_ _));refine a_R (cs:=#[.slice none 0 0]) ?_ 0 _ rfl;(with_reducible repeat (first|refine a_l ?_ _|refine a_k ?_|refine a_m ?_ _));exact b_q.out⟩
   have n8_ : a_a (Below w.heap.size w (w102.setCell ⟨a_W,0,none⟩ (.slice d_b t487.length d_c))):=⟨by repeat (first|(with_reducible first|exact HB.out|apply a_g|apply a_d|apply a_h|refine a_b ?_ a_M.out|refine a_b ?_ a_N.out|refine a_b ?_ a_T.out|refine a_b ?_ a_X.out|refine a_b ?_ d_g.out)|exact HB.out)⟩
   (try clear a_6)
   (try clear b_j)
   (try clear b_v)
   (try clear a_B)
   (try clear a_o)
   (try clear a_C)
   (try clear a_D)
   (try clear b_q)
   (try clear HB)
   generalize (w102.setCell ⟨a_W,0,none⟩ (.slice d_b t487.length d_c)) = w109 at n0_ n1_ n2_ n3_ n4_ n5_ n6_ n7_ n8_ ⊢
   have a_6:=n0_
   have b_j:=n1_
   have b_v:=n2_
   have a_B:=n3_
   have a_o:=n4_
   have a_C:=n5_
   have a_D:=n6_
   have b_q:=n7_
   have HB:=n8_
   clear n0_ n1_ n2_ n3_ n4_ n5_ n6_ n7_ n8_
   replace a_6:=a_a.mk (Kd.a_G a_6.out)
   replace b_j:=a_a.mk (Kd.a_G b_j.out)
   replace b_v:=a_a.mk (Kd.a_G b_v.out)
   replace a_B:=a_a.mk (a_k a_B.out)
   replace a_o:=a_a.mk (a_k a_o.out)
   replace a_C:=a_a.mk (a_k a_C.out)
   replace a_D:=a_a.mk (a_k a_D.out)
   replace b_q:=a_a.mk (a_k b_q.out)
   replace HB:=a_a.mk (a_h HB.out)
   refine f_l (n:=16) (S:=fun w' => True) (ds:=[]) #[F_,F_,F_,F_,F_,F_,F_,F_,F_,F_,F_,F_,F_,F_,F_,F_] (by kernel_rfl) rfl rfl trivial (fun hHeld => ?_);refine d_w a_n.tab9 a_n.g_P (fun HT_ HW_ => ?_)
   generalize w109.drew = w110 at a_6 b_j b_v a_B a_o a_C a_D b_q HB hHeld ⊢
   refine b_E (i:=0) (N:=some 45) (v:=?_) (a':=?_) #[T_,F_,F_,F_,F_,F_,F_,F_,F_,F_,F_,F_,F_,F_,F_,F_] rfl rfl (b_g HT_.out (by kernel_rfl)) (fun _ _ _ h => h) (Or.inl ⟨by rfl,?_⟩) ?_ ?_
   rotate_left
   ·intro w'
    go_simp
    with_reducible rfl
   rotate_left
   ·simp only [Act.put,List.setIfInBounds_toArray,List.set_cons_zero,List.set_cons_succ,b_m,b_o]
    rfl
   refine b_E (i:=1) (N:=some 46) (v:=?_) (a':=?_) #[T_,T_,F_,F_,F_,F_,F_,F_,F_,F_,F_,F_,F_,F_,F_,F_] rfl rfl (b_g HT_.out (by kernel_rfl)) (fun _ _ _ h => h) (Or.inl ⟨by rfl,?_⟩) ?_ ?_
   rotate_left
   ·intro w'
    go_simp
    with_reducible rfl
   rotate_left
   ·simp only [Act.put,List.setIfInBounds_toArray,List.set_cons_zero,List.set_cons_succ,b_m,b_o]
    rfl
   refine b_E (i:=2) (N:=some 47) (v:=?_) (a':=?_) #[T_,T_,T_,F_,F_,F_,F_,F_,F_,F_,F_,F_,F_,F_,F_,F_] rfl rfl (b_g HT_.out (by kernel_rfl)) (fun _ _ _ h => h) (Or.inl ⟨by rfl,?_⟩) ?_ ?_
   rotate_left
   ·intro w'
    go_simp
    with_reducible rfl
   rotate_left
   ·simp only [Act.put,List.setIfInBounds_toArray,List.set_cons_zero,List.set_cons_succ,b_m,b_o]
    rfl
   refine b_E (i:=3) (N:=some 48) (v:=undef) (a':=?_) #[T_,T_,T_,T_,F_,F_,F_,F_,F_,F_,F_,F_,F_,F_,F_,F_] rfl rfl (b_g HT_.out (by kernel_rfl)) (fun _ _ _ h => h) (Or.inr ⟨by rfl,rfl⟩) ?_ ?_
   rotate_left
   ·simp only [Act.put,List.setIfInBounds_toArray,List.set_cons_zero,List.set_cons_succ,b_m,b_o]
    rfl
   refine b_E (i:=4) (N:=some 49) (v:=undef) (a':=?_) #[T_,T_,T_,T_,T_,F_,F_,F_,F_,F_,F_,F_,F_,F_,F_,F_] rfl rfl (b_g HT_.out (by kernel_rfl)) (fun _ _ _ h => h) (Or.inr ⟨by rfl,rfl⟩) ?_ ?_
   rotate_left
   ·simp only [Act.put,List.setIfInBounds_toArray,List.set_cons_zero,List.set_cons_succ,b_m,b_o]
    rfl
   refine b_E (i:=5) (N:=some 50) (v:=undef) (a':=?_) #[T_,T_,T_,T_,T_,T_,F_,F_,F_,F_,F_,F_,F_,F_,F_,F_] rfl rfl (b_g HT_.out (by kernel_rfl)) (fun _ _ _ h => h) (Or.inr ⟨by rfl,rfl⟩) ?_ ?_
   rotate_left
   ·simp only [Act.put,List.setIfInBounds_toArray,List.set_cons_zero,List.set_cons_succ,b_m,b_o]
    rfl
   refine b_E (i:=6) (N:=some 51) (v:=undef) (a':=?_) #[T_,T_,T_,T_,T_,T_,T_,F_,F_,F_,F_,F_,F_,F_,F_,F_] rfl rfl (b_g HT_.out (by kernel_rfl)) (fun _ _ _ h => h) (Or.inr ⟨by rfl,rfl⟩) ?_ ?_
   rotate_left
   ·simp only [Act.put,List.setIfInBounds_toArray,List.set_cons_zero,List.set_cons_succ,b_m,b_o]
    rfl
   refine b_E (i:=7) (N:=some 52) (v:=?_) (a':=?_) #[T_,T_,T_,T_,T_,T_,T_,T_,F_,F_,F_,F_,F_,F_,F_,F_] rfl rfl (b_g HT_.out (by kernel_rfl)) (fun _ _ _ h => h) (Or.inl ⟨by rfl,?_⟩) ?_ ?_
   rotate_left
   ·intro w'
    go_simp
    with_reducible rfl
   rotate_left
   ·simp only [Act.put,List.setIfInBounds_toArray,List.set_cons_zero,List.set_cons_succ,b_m,b_o]
    rfl
   refine b_E (i:=8) (N:=some 53) (v:=?_) (a':=?_) #[T_,T_,T_,T_,T_,T_,T_,T_,T_,F_,F_,F_,F_,F_,F_,F_] rfl rfl (b_g HT_.out (by kernel_rfl)) (fun _ _ _ h => h) (Or.inl ⟨by rfl,?_⟩) ?_ ?_
   rotate_left
   ·intro w'
    go_simp
    with_reducible rfl
   rotate_left
   ·simp only [Act.put,List.setIfInBounds_toArray,List.set_cons_zero,List.set_cons_succ,b_m,b_o]
    rfl
   refine b_E (i:=9) (N:=some 54) (v:=undef) (a':=?_) #[T_,T_,T_,T_,T_,T_,T_,T_,T_,T_,F_,F_,F_,F_,F_,F_] rfl rfl (b_g HT_.out (by kernel_rfl)) (fun _ _ _ h => h) (Or.inr ⟨by rfl,rfl⟩) ?_ ?_
   rotate_left
   ·simp only [Act.put,List.setIfInBounds_toArray,List.set_cons_zero,List.set_cons_succ,b_m,b_o]
    rfl
   refine b_E (i:=10) (N:=some 55) (v:=undef) (a':=?_) #[T_,T_,T_,T_,T_,T_,T_,T_,T_,T_,T_,F_,F_,F_,F_,F_] rfl rfl (b_g HT_.out (by kernel_rfl)) (fun _ _ _ h => h) (Or.inr ⟨by rfl,rfl⟩) ?_ ?_
   rotate_left
   ·simp only [Act.put,List.setIfInBounds_toArray,List.set_cons_zero,List.set_cons_succ,b_m,b_o]
    rfl
   refine b_E (i:=11) (N:=some 56) (v:=undef) (a':=?_) #[T_,T_,T_,T_,T_,T_,T_,T_,T_,T_,T_,T_,F_,F_,F_,F_] rfl rfl (b_g HT_.out (by kernel_rfl)) (fun _ _ _ h => h) (Or.inr ⟨by rfl,rfl⟩) ?_ ?_
   rotate_left
   ·simp only [Act.put,List.setIfInBounds_toArray,List.set_cons_zero,List.set_cons_succ,b_m,b_o]
    rfl
   refine b_E (i:=12) (N:=some 57) (v:=undef) (a':=?_) #[T_,T_,T_,T_,T_,T_,T_,T_,T_,T_,T_,T_,T_,F_,F_,F_] rfl rfl (b_g HT_.out (by kernel_rfl)) (fun _ _ _ h => h) (Or.inr ⟨by rfl,rfl⟩) ?_ ?_
   rotate_left
   ·simp only [Act.put,List.setIfInBounds_toArray,List.set_cons_zero,List.set_cons_succ,b_m,b_o]
    rfl
   refine b_E (i:=13) (N:=some 58) (v:=undef) (a':=?_) #[T_,T_,T_,T_,T_,T_,T_,T_,T_,T_,T_,T_,T_,T_,F_,F_] rfl rfl (b_g HT_.out (by kernel_rfl)) (fun _ _ _ h => h) (Or.inr ⟨by rfl,rfl⟩) ?_ ?_
   rotate_left
   ·simp only [Act.put,List.setIfInBounds_toArray,List.set_cons_zero,List.set_cons_succ,b_m,b_o]
    rfl
   refine b_E (i:=14) (N:=some 59) (v:=undef) (a':=?_) #[T_,T_,T_,T_,T_,T_,T_,T_,T_,T_,T_,T_,T_,T_,T_,F_] rfl rfl (b_g HT_.out (by kernel_rfl)) (fun _ _ _ h => h) (Or.inr ⟨by rfl,rfl⟩) ?_ ?_
   rotate_left
   ·simp only [Act.put,List.setIfInBounds_toArray,List.set_cons_zero,List.set_cons_succ,b_m,b_o]
    rfl
   refine b_E (i:=15) (N:=some 60) (v:=?_) (a':=?_) #[T_,T_,T_,T_,T_,T_,T_,T_,T_,T_,T_,T_,T_,T_,T_,T_] rfl rfl (b_g HT_.out (by kernel_rfl)) (fun _ _ _ h => h) (Or.inl ⟨by rfl,?_⟩) ?_ ?_
   rotate_left
   ·intro w'
    go_simp
    with_reducible rfl
   rotate_left
   ·simp only [Act.put,List.setIfInBounds_toArray,List.set_cons_zero,List.set_cons_succ,b_m,b_o]
    rfl
   refine g_Q (e_x HT_.out (by kernel_rfl)) ?_
   try go_wp2
   go_ret
   exact ⟨by first|rfl|(simp [a_J,a_H] <;> rfl)|(simp [*, a_J,a_H] <;> rfl),by repeat (first|(with_reducible first|exact HB.out|apply a_g|apply a_d|apply a_h|refine a_b ?_ a_M.out|refine a_b ?_ a_N.out|refine a_b ?_ a_T.out|refine a_b ?_ a_X.out|refine a_b ?_ d_g.out)|exact HB.out)⟩
  rw [if_pos c33] at H
  have c33b0 : (t490 == 0) = true:=beq_iff_eq.mpr c33
  have c33b1 : (t490 != 0) = false:=bne_eq_false_iff_eq.mpr c33
  clear c33
  replace H:=Option.bind_eq_some_iff.mp H
  obtain ⟨t492,A340,H⟩:=H
  replace H : (if t492 = true then ((b_s.f k t481 t484).bind fun t493 => (if t493 = a1_4 then (a_n.j0 k a1_0 a1_1 a1_2 a1_3 a1_4 t476) else (some false))) else (some false)) = some r:=H
  have A34:=a_a.mk A340
  clear A340
  by_cases c35 : t492 = true
  rotate_left
  ·replace c35:=Bool.eq_false_iff.mpr c35
   subst c35
   have H1 : (some false) = some r:=by rw [if_neg (show ¬ (false = true) by decide)] at H;exact H
   clear H
   have H:=H1
   clear H1
   obtain rfl:=Option.some.inj H
   have s_g:=d_a.out
   have s_h:=c_a.out
   have s_i:=b_W.out
   have s_j:=b_y.out
   have s_k:=b_X.out
   have s_l:=b_z.out
   have i_l : w25.cell? ⟨a_9,0,none⟩ = some (.slice none 0 0):=(a_f a_D.out 0).trans rfl
   have i_m:=a_e a_D.out 0
   have s_m:=b_K.out
   have s_n:=b_J.out
   have s_o:=b_F.out
   have s_p:=b_M.out
   have i_n : w25.cell? ⟨a_y,0,none⟩ = some (.int .i64 a1_0):=(a_f a_o.out 0).trans rfl
   have i_o : w25.cell? ⟨a_y,1,none⟩ = some (.int .i64 a1_1):=(a_f a_o.out 1).trans rfl
   have i_p : w25.cell? ⟨a_y,2,none⟩ = some (.int .i64 a1_2):=(a_f a_o.out 2).trans rfl
   have i_q : w25.cell? ⟨a_y,3,none⟩ = some (.int .i64 a1_3):=(a_f a_o.out 3).trans rfl
   have i_r : w25.cell? ⟨a_y,4,none⟩ = some (.int .u32 a1_4):=(a_f a_o.out 4).trans rfl
   have i_s:=a_e a_o.out 0
   have i_t:=a_e a_o.out 1
   have i_u:=a_e a_o.out 2
   have i_v:=a_e a_o.out 3
   have i_w:=a_e a_o.out 4
   try go_wp2_with (first|((with_reducible refine a_z (f:=30) rfl ?_);refine b_h (some 42) rfl rfl Try.func30 (by kernel_rfl) rfl #[.agg #[.slice Ao26 t481.length co26],.int .i64 t484,.int .i64 a1_1] rfl (by (try simp only [List.map_toArray,List.map_cons,List.map_nil]);first|done|rfl|(simp only [List.length_drop,List.length_take];rfl)) ?_;(with_reducible refine (a_0.calls k _ _ t481 t484 a1_1 t487 t490 _ ?side1 ?side2 A32.out).mono ?_);(case side1 => refine (Kd.a_t (e:=31) (base:=w.heap.size) (ok:=fun k_ => (True ∧ some k_ ≠ (.slice Ao17 t476.length co17 : Value).ownBlock)) (n:=t481.length) (c:=co26) ?_).2.2;exact (by (with_reducible repeat (first|apply Kd.a_F|apply Kd.a_E|apply Kd.a_G));exact (Kd.a_L (Kd.a_7 (p:=⟨a_9,0,none⟩) (Kd.a_I b_j.out a_D.out (by decide)) (fun _ hk => hk.2) (.slice Ao26 t481.length co26)) (fun _ h_ => h_.1))));(case side2 => exact (Kd.a_t b_j.out).2.1);rintro e w83 ⟨v488,rfl,ho0,hb⟩;refine ⟨_,rfl,?_⟩;have b_v:=a_a.mk (Kd.a_5 (Kd.b_r (Kd.b_r ho0 (Kd.R_lt (by (with_reducible repeat (first|apply Kd.a_F|apply Kd.a_E|apply Kd.a_G));exact (Kd.a_L (Kd.a_7 (p:=⟨a_9,0,none⟩) (Kd.a_I a_6.out a_D.out (by decide)) (fun _ hk => hk.2) (.slice Ao26 t481.length co26)) (fun _ h_ => h_.1))))) (Kd.R_lt (by (with_reducible repeat (first|apply Kd.a_F|apply Kd.a_E|apply Kd.a_G));exact (Kd.a_L (Kd.a_7 (p:=⟨a_9,0,none⟩) (Kd.a_I b_j.out a_D.out (by decide)) (fun _ hk => hk.2) (.slice Ao26 t481.length co26)) (fun _ h_ => h_.1))))) (a_p (by repeat (first|(with_reducible first|exact HB.out|apply a_g|apply a_d|apply a_h|refine a_b ?_ a_M.out|refine a_b ?_ a_N.out|refine a_b ?_ a_T.out|refine a_b ?_ a_X.out)|exact HB.out))));replace a_6:=a_a.mk (Kd.a_V (by (with_reducible repeat (first|apply Kd.a_F|apply Kd.a_E|apply Kd.a_G));exact (Kd.a_L (Kd.a_7 (p:=⟨a_9,0,none⟩) (Kd.a_I a_6.out a_D.out (by decide)) (fun _ hk => hk.2) (.slice Ao26 t481.length co26)) (fun _ h_ => h_.1))) (Kd.b_n ho0) hb);replace b_j:=a_a.mk (Kd.a_V (by (with_reducible repeat (first|apply Kd.a_F|apply Kd.a_E|apply Kd.a_G));exact (Kd.a_L (Kd.a_7 (p:=⟨a_9,0,none⟩) (Kd.a_I b_j.out a_D.out (by decide)) (fun _ hk => hk.2) (.slice Ao26 t481.length co26)) (fun _ h_ => h_.1))) (Kd.b_n ho0) hb);replace a_B:=a_a.mk (a_c (g:=b_l) (o:=.cells #[.slice A0_0 l0_0.length c0_0] 26 (0,0)) (by (with_reducible repeat (first|refine a_l ?_ _|refine a_k ?_|refine a_m ?_ _));refine a_u ?_ c_a.out _;(with_reducible repeat (first|refine a_l ?_ _|refine a_k ?_|refine a_m ?_ _));exact a_B.out) hb);replace a_o:=a_a.mk (a_c (g:=a_y) (o:=.cells #[.int .i64 a1_0,.int .i64 a1_1,.int .i64 a1_2,.int .i64 a1_3,.int .u32 a1_4] 36 (0,0)) (by (with_reducible repeat (first|refine a_l ?_ _|refine a_k ?_|refine a_m ?_ _));refine a_u ?_ b_y.out _;(with_reducible repeat (first|refine a_l ?_ _|refine a_k ?_|refine a_m ?_ _));exact a_o.out) hb);replace a_C:=a_a.mk (a_c (g:=b_d) (o:=.cells #[.slice Ao17 t476.length co17] 26 (0,0)) (by (with_reducible repeat (first|refine a_l ?_ _|refine a_k ?_|refine a_m ?_ _));refine a_u ?_ b_z.out _;(with_reducible repeat (first|refine a_l ?_ _|refine a_k ?_|refine a_m ?_ _));exact a_C.out) hb);replace a_D:=a_a.mk (a_c (g:=a_9) (o:=.cells #[.slice Ao26 t481.length co26] 26 (0,0)) (by (with_reducible repeat (first|refine a_l ?_ _|refine a_k ?_|refine a_m ?_ _));refine a_R (cs:=#[.slice none 0 0]) ?_ 0 _ rfl;(with_reducible repeat (first|refine a_l ?_ _|refine a_k ?_|refine a_m ?_ _));exact a_D.out) hb);replace HB:=a_a.mk (a_j (by repeat (first|(with_reducible first|exact HB.out|apply a_g|apply a_d|apply a_h|refine a_b ?_ a_M.out|refine a_b ?_ a_N.out|refine a_b ?_ a_T.out|refine a_b ?_ a_X.out)|exact HB.out)) hb);(try clear hb);(try clear hb2);(try clear hk);(try clear hi);(try clear ho0))|((with_reducible refine a_s (N:=9) rfl ?_);refine a_r ?hg (N:=9) ?hd (cs:=#[.slice none 0 0]) (t:=26) ?hr ?_;(case hd => rfl);(case hg => rfl);(case hr => first|(go_simp;done)|(go_simp;rfl));intro a_W hg w84 hbox hb;have b_q:=a_a.mk (hbox);have i_k:=a_a.mk ((by rw [hg];exact (a_p (by repeat (first|(with_reducible first|exact HB.out|apply a_g|apply a_d|apply a_h|refine a_b ?_ a_M.out|refine a_b ?_ a_N.out|refine a_b ?_ a_T.out|refine a_b ?_ a_X.out)|exact HB.out))) : w.heap.size ≤ a_W));have d_g:=a_a.mk ((by rw [hg];exact (a_p (by repeat (first|(with_reducible first|exact HB.out|apply a_g|apply a_d|apply a_h|refine a_b ?_ a_M.out|refine a_b ?_ a_N.out|refine a_b ?_ a_T.out|refine a_b ?_ a_X.out)|exact HB.out))) : w.heap.size ≤ a_W));have b_Y:=a_a.mk ((by rw [hg];exact Nat.ne_of_lt (a_i (bup_ a_B.out)) : b_l ≠ a_W));have c_E:=a_a.mk ((by rw [hg];exact Nat.ne_of_gt (a_i (bup_ a_B.out)) : a_W ≠ b_l));have b_Z:=a_a.mk ((by rw [hg];exact Nat.ne_of_lt (a_i (bup_ a_o.out)) : a_y ≠ a_W));have c_F:=a_a.mk ((by rw [hg];exact Nat.ne_of_gt (a_i (bup_ a_o.out)) : a_W ≠ a_y));have b_0:=a_a.mk ((by rw [hg];exact Nat.ne_of_lt (a_i (bup_ a_C.out)) : b_d ≠ a_W));have c_G:=a_a.mk ((by rw [hg];exact Nat.ne_of_gt (a_i (bup_ a_C.out)) : a_W ≠ b_d));have b_1:=a_a.mk ((by rw [hg];exact Nat.ne_of_lt (a_i (bup_ a_D.out)) : a_9 ≠ a_W));have c_H:=a_a.mk ((by rw [hg];exact Nat.ne_of_gt (a_i (bup_ a_D.out)) : a_W ≠ a_9));replace a_6:=a_a.mk (Kd.a_w (rup_ a_6.out) hb);replace b_j:=a_a.mk (Kd.a_w (rup_ b_j.out) hb);replace b_v:=a_a.mk (Kd.a_w (rup_ b_v.out) hb);replace a_B:=a_a.mk (a_c (bup_ a_B.out) hb);replace a_o:=a_a.mk (a_c (bup_ a_o.out) hb);replace a_C:=a_a.mk (a_c (bup_ a_C.out) hb);replace a_D:=a_a.mk (a_c (bup_ a_D.out) hb);replace HB:=a_a.mk (a_j (by repeat (first|(with_reducible first|exact HB.out|apply a_g|apply a_d|apply a_h|refine a_b ?_ a_M.out|refine a_b ?_ a_N.out|refine a_b ?_ a_T.out|refine a_b ?_ a_X.out)|exact HB.out)) hb);clear hb hbox hg;obtain ⟨Ao85,co85,eo85⟩:=Kd.a_4 b_v.out;subst eo85;have s_q:=c_E.out;have s_r:=b_Y.out;have s_s:=c_F.out;have s_t:=b_Z.out;have s_u:=c_G.out;have s_v:=b_0.out;have s_w:=c_H.out;have s_x:=b_1.out;have i_x : w84.cell? ⟨a_W,0,none⟩ = some (.slice none 0 0):=(a_f b_q.out 0).trans rfl;have i_y:=a_e b_q.out 0))
   have n0_ : a_a (Kd.R (Kd.int .u32) 31 (w84.setCell ⟨a_W,0,none⟩ (.slice Ao85 t487.length co85)) w.heap.size (fun k_ => some k_ ≠ (.slice Ao26 t481.length co26 : Value).ownBlock ∧ some k_ ≠ (.slice Ao85 t487.length co85 : Value).ownBlock) (.slice Ao17 t476.length co17) t476):=⟨by (with_reducible repeat (first|apply Kd.a_F|apply Kd.a_E|apply Kd.a_G));exact Kd.a_L (Kd.a_7 (p:=⟨a_W,0,none⟩) (Kd.a_I a_6.out b_q.out (by decide)) (fun _ hk => hk.2) (.slice Ao85 t487.length co85)) (fun _ hk => ⟨hk.1.1.2,hk.1.2⟩)⟩
   have n1_ : a_a (Kd.R (Kd.int .u32) 31 (w84.setCell ⟨a_W,0,none⟩ (.slice Ao85 t487.length co85)) w.heap.size (fun k_ => some k_ ≠ (.slice Ao17 t476.length co17 : Value).ownBlock ∧ some k_ ≠ (.slice Ao85 t487.length co85 : Value).ownBlock) (.slice Ao26 t481.length co26) t481):=⟨by (with_reducible repeat (first|apply Kd.a_F|apply Kd.a_E|apply Kd.a_G));exact Kd.a_L (Kd.a_7 (p:=⟨a_W,0,none⟩) (Kd.a_I b_j.out b_q.out (by decide)) (fun _ hk => hk.2) (.slice Ao85 t487.length co85)) (fun _ hk => ⟨hk.1.1.2,hk.1.2⟩)⟩
   have n2_ : a_a (Kd.R (Kd.int .u32) 31 (w84.setCell ⟨a_W,0,none⟩ (.slice Ao85 t487.length co85)) w.heap.size (fun k_ => some k_ ≠ (.slice Ao17 t476.length co17 : Value).ownBlock ∧ some k_ ≠ (.slice Ao26 t481.length co26 : Value).ownBlock) (.slice Ao85 t487.length co85) t487):=⟨by (with_reducible repeat (first|apply Kd.a_F|apply Kd.a_E|apply Kd.a_G));exact Kd.a_L (Kd.a_7 (p:=⟨a_W,0,none⟩) (Kd.a_I b_v.out b_q.out (by decide)) (fun _ hk => hk.2) (.slice Ao85 t487.length co85)) (fun _ hk => ⟨hk.1.1.2,hk.1.2⟩)⟩
   have n3_ : a_a ((w84.setCell ⟨a_W,0,none⟩ (.slice Ao85 t487.length co85)).heap[b_l]? = some (.cells #[.slice A0_0 l0_0.length c0_0] 26 (0,0))):=⟨by (with_reducible repeat (first|refine a_l ?_ _|refine a_k ?_|refine a_m ?_ _));refine a_u ?_ b_Y.out _;(with_reducible repeat (first|refine a_l ?_ _|refine a_k ?_|refine a_m ?_ _));exact a_B.out⟩
   have n4_ : a_a ((w84.setCell ⟨a_W,0,none⟩ (.slice Ao85 t487.length co85)).heap[a_y]? = some (.cells #[.int .i64 a1_0,.int .i64 a1_1,.int .i64 a1_2,.int .i64 a1_3,.int .u32 a1_4] 36 (0,0))):=⟨by (with_reducible repeat (first|refine a_l ?_ _|refine a_k ?_|refine a_m ?_ _));refine a_u ?_ b_Z.out _;(with_reducible repeat (first|refine a_l ?_ _|refine a_k ?_|refine a_m ?_ _));exact a_o.out⟩
   have n5_ : a_a ((w84.setCell ⟨a_W,0,none⟩ (.slice Ao85 t487.length co85)).heap[b_d]? = some (.cells #[.slice Ao17 t476.length co17] 26 (0,0))):=⟨by (with_reducible repeat (first|refine a_l ?_ _|refine a_k ?_|refine a_m ?_ _));refine a_u ?_ b_0.out _;(with_reducible repeat (first|refine a_l ?_ _|refine a_k ?_|refine a_m ?_ _));exact a_C.out⟩
   have n6_ : a_a ((w84.setCell ⟨a_W,0,none⟩ (.slice Ao85 t487.length co85)).heap[a_9]? = some (.cells #[.slice Ao26 t481.length co26] 26 (0,0))):=⟨by (with_reducible repeat (first|refine a_l ?_ _|refine a_k ?_|refine a_m ?_ _));refine a_u ?_ b_1.out _;(with_reducible repeat (first|refine a_l ?_ _|refine a_k ?_|refine a_m ?_ _));exact a_D.out⟩
   have n7_ : a_a ((w84.setCell ⟨a_W,0,none⟩ (.slice Ao85 t487.length co85)).heap[a_W]? = some (.cells #[.slice Ao85 t487.length co85] 26 (0,0))):=⟨by (with_reducible repeat (first|refine a_l ?_ _|refine a_k ?_|refine a_m ?_ _));refine a_R (cs:=#[.slice none 0 0]) ?_ 0 _ rfl;(with_reducible repeat (first|refine a_l ?_ _|refine a_k ?_|refine a_m ?_ _));exact b_q.out⟩
   have n8_ : a_a (Below w.heap.size w (w84.setCell ⟨a_W,0,none⟩ (.slice Ao85 t487.length co85))):=⟨by repeat (first|(with_reducible first|exact HB.out|apply a_g|apply a_d|apply a_h|refine a_b ?_ a_M.out|refine a_b ?_ a_N.out|refine a_b ?_ a_T.out|refine a_b ?_ a_X.out|refine a_b ?_ d_g.out)|exact HB.out)⟩
   (try clear a_6)
   (try clear b_j)
   (try clear b_v)
   (try clear a_B)
   (try clear a_o)
   (try clear a_C)
   (try clear a_D)
   (try clear b_q)
   (try clear HB)
   generalize (w84.setCell ⟨a_W,0,none⟩ (.slice Ao85 t487.length co85)) = w91 at n0_ n1_ n2_ n3_ n4_ n5_ n6_ n7_ n8_ ⊢
   have a_6:=n0_
   have b_j:=n1_
   have b_v:=n2_
   have a_B:=n3_
   have a_o:=n4_
   have a_C:=n5_
   have a_D:=n6_
   have b_q:=n7_
   have HB:=n8_
   clear n0_ n1_ n2_ n3_ n4_ n5_ n6_ n7_ n8_
   replace a_6:=a_a.mk (Kd.a_G a_6.out)
   replace b_j:=a_a.mk (Kd.a_G b_j.out)
   replace b_v:=a_a.mk (Kd.a_G b_v.out)
   replace a_B:=a_a.mk (a_k a_B.out)
   replace a_o:=a_a.mk (a_k a_o.out)
   replace a_C:=a_a.mk (a_k a_C.out)
   replace a_D:=a_a.mk (a_k a_D.out)
   replace b_q:=a_a.mk (a_k b_q.out)
   replace HB:=a_a.mk (a_h HB.out)
   refine f_l (n:=16) (S:=fun w' => w'.cell? ⟨a_W,0,none⟩ = some (.slice Ao85 t487.length co85) ∧ w'.cell? ⟨b_d,0,none⟩ = some (.slice Ao17 t476.length co17)) (ds:=[]) #[F_,F_,F_,F_,F_,F_,F_,F_,F_,F_,F_,F_,F_,F_,F_,F_] (by kernel_rfl) rfl rfl ⟨(a_f b_q.out 0).trans rfl,(a_f a_C.out 0).trans rfl⟩ (fun hHeld => ?_);refine d_w a_n.tab9 a_n.g_P (fun HT_ HW_ => ?_)
   generalize w91.drew = w92 at a_6 b_j b_v a_B a_o a_C a_D b_q HB hHeld ⊢
   refine b_E (i:=0) (N:=some 45) (v:=?_) (a':=?_) #[T_,F_,F_,F_,F_,F_,F_,F_,F_,F_,F_,F_,F_,F_,F_,F_] rfl rfl (b_g HT_.out (by kernel_rfl)) (fun _ _ _ h => h) (Or.inl ⟨by rfl,?_⟩) ?_ ?_
   rotate_left
   ·intro w'
    go_simp
    with_reducible rfl
   rotate_left
   ·simp only [Act.put,List.setIfInBounds_toArray,List.set_cons_zero,List.set_cons_succ,b_m,b_o]
    rfl
   refine b_E (i:=1) (N:=some 46) (v:=?_) (a':=?_) #[T_,T_,F_,F_,F_,F_,F_,F_,F_,F_,F_,F_,F_,F_,F_,F_] rfl rfl (b_g HT_.out (by kernel_rfl)) (fun _ _ _ h => h) (Or.inl ⟨by rfl,?_⟩) ?_ ?_
   rotate_left
   ·intro w'
    go_simp
    with_reducible rfl
   rotate_left
   ·simp only [Act.put,List.setIfInBounds_toArray,List.set_cons_zero,List.set_cons_succ,b_m,b_o]
    rfl
   refine b_E (i:=2) (N:=some 47) (v:=?_) (a':=?_) #[T_,T_,T_,F_,F_,F_,F_,F_,F_,F_,F_,F_,F_,F_,F_,F_] rfl rfl (b_g HT_.out (by kernel_rfl)) (fun _ _ _ h => h) (Or.inl ⟨by rfl,?_⟩) ?_ ?_
   rotate_left
   ·intro w'
    go_simp
    with_reducible rfl
   rotate_left
   ·simp only [Act.put,List.setIfInBounds_toArray,List.set_cons_zero,List.set_cons_succ,b_m,b_o]
    rfl
   refine d_C (i:=3) (N:=some 48) (v:=?_) (a':=?_) #[T_,T_,T_,T_,F_,F_,F_,F_,F_,F_,F_,F_,F_,F_,F_,F_] rfl rfl (c_v HT_.out HW_.out (by kernel_rfl)) (fun _ _ _ h => h) (Or.inl ⟨by rfl,?_⟩) hHeld ?_ ?_
   rotate_left
   ·rintro w' ⟨s0,s1⟩
    go_simp
    with_reducible rfl
   rotate_left
   ·simp only [Act.put,List.setIfInBounds_toArray,List.set_cons_zero,List.set_cons_succ,b_m,b_o]
    rfl
   refine d_C (i:=4) (N:=some 49) (v:=?_) (a':=?_) #[T_,T_,T_,T_,T_,F_,F_,F_,F_,F_,F_,F_,F_,F_,F_,F_] rfl rfl (c_v HT_.out HW_.out (by kernel_rfl)) (fun _ _ _ h => h) (Or.inl ⟨by rfl,?_⟩) hHeld ?_ ?_
   rotate_left
   ·rintro w' ⟨s0,s1⟩
    go_simp
    with_reducible rfl
   rotate_left
   ·simp only [Act.put,List.setIfInBounds_toArray,List.set_cons_zero,List.set_cons_succ,b_m,b_o]
    rfl
   refine one_ (i:=5) (N:=some 50) #[T_,T_,T_,T_,T_,T_,F_,F_,F_,F_,F_,F_,F_,F_,F_,F_] rfl rfl (e_N HT_.out (by kernel_rfl)) (by decide) (fun K hK => ?_)
   refine f_V Try.func18 (by kernel_rfl) rfl #[.agg #[.slice Ao85 t487.length co85],.agg #[.slice Ao17 t476.length co17]] (by rfl) rfl rfl (by (try simp only [List.map_toArray,List.map_cons,List.map_nil]);first|done|rfl|(simp only [List.length_drop,List.length_take];rfl)) ?_
   with_reducible refine (a_1.calls k _ _ t487 _ _ t476 false _ ?side1 ?side2 ?side3 ?side4 A34.out).mono ?_
   (case side1 => repeat (first|exact (Kd.a_t b_v.out).2.2|(with_reducible refine Kd.b_a ?_ _)|(with_reducible refine Kd.b_c ?_ _)|(with_reducible refine Kd.b_p ?_)))
   (case side2 => exact (Kd.a_t b_v.out).2.1)
   (case side3 => repeat (first|exact (Kd.a_t a_6.out).2.2|(with_reducible refine Kd.b_a ?_ _)|(with_reducible refine Kd.b_c ?_ _)|(with_reducible refine Kd.b_p ?_)))
   (case side4 => exact (Kd.a_t a_6.out).2.1)
   rintro e w93 ⟨rfl,hb⟩
   refine ⟨_,rfl,?_⟩
   replace a_6:=a_a.mk (Kd.a_w (rup_ a_6.out) hb)
   replace b_j:=a_a.mk (Kd.a_w (rup_ b_j.out) hb)
   replace b_v:=a_a.mk (Kd.a_w (rup_ b_v.out) hb)
   replace a_B:=a_a.mk (a_c (bup_ a_B.out) hb)
   replace a_o:=a_a.mk (a_c (bup_ a_o.out) hb)
   replace a_C:=a_a.mk (a_c (bup_ a_C.out) hb)
   replace a_D:=a_a.mk (a_c (bup_ a_D.out) hb)
   replace b_q:=a_a.mk (a_c (bup_ b_q.out) hb)
   replace HB:=a_a.mk (a_j (by repeat (first|(with_reducible first|exact HB.out|apply a_g|apply a_d|apply a_h|refine a_b ?_ a_M.out|refine a_b ?_ a_N.out|refine a_b ?_ a_T.out|refine a_b ?_ a_X.out|refine a_b ?_ d_g.out)|exact HB.out)) hb)
   (try clear hb)
   (try clear hb2)
   (try clear hk)
   (try clear hi)
   refine hK.out _ _ ⟨(a_f b_q.out 0).trans rfl,(a_f a_C.out 0).trans rfl⟩ (fun hHeld => ?_)
   clear hK K
   refine f_8 (a':=?_) ?_ ?_
   rotate_left
   ·show Act.put _ (some 50) _ = _
    simp only [Act.put,List.setIfInBounds_toArray,List.set_cons_zero,List.set_cons_succ,b_m,b_o]
    rfl
   refine b_E (i:=6) (N:=some 51) (v:=?_) (a':=?_) #[T_,T_,T_,T_,T_,T_,T_,F_,F_,F_,F_,F_,F_,F_,F_,F_] rfl rfl (b_g HT_.out (by kernel_rfl)) (fun _ _ _ h => h) (Or.inl ⟨by rfl,?_⟩) ?_ ?_
   rotate_left
   ·intro w'
    go_simp
    with_reducible rfl
   rotate_left
   ·simp only [Act.put,List.setIfInBounds_toArray,List.set_cons_zero,List.set_cons_succ,b_m,b_o]
    rfl
   refine b_E (i:=7) (N:=some 52) (v:=?_) (a':=?_) #[T_,T_,T_,T_,T_,T_,T_,T_,F_,F_,F_,F_,F_,F_,F_,F_] rfl rfl (b_g HT_.out (by kernel_rfl)) (fun _ _ _ h => h) (Or.inl ⟨by rfl,?_⟩) ?_ ?_
   rotate_left
   ·intro w'
    go_simp
    with_reducible rfl
   rotate_left
   ·simp only [Act.put,List.setIfInBounds_toArray,List.set_cons_zero,List.set_cons_succ,b_m,b_o]
    rfl
   refine b_E (i:=8) (N:=some 53) (v:=?_) (a':=?_) #[T_,T_,T_,T_,T_,T_,T_,T_,T_,F_,F_,F_,F_,F_,F_,F_] rfl rfl (b_g HT_.out (by kernel_rfl)) (fun _ _ _ h => h) (Or.inl ⟨by rfl,?_⟩) ?_ ?_
   rotate_left
   ·intro w'
    go_simp
    with_reducible rfl
   rotate_left
   ·simp only [Act.put,List.setIfInBounds_toArray,List.set_cons_zero,List.set_cons_succ,b_m,b_o]
    rfl
   refine b_E (i:=9) (N:=some 54) (v:=undef) (a':=?_) #[T_,T_,T_,T_,T_,T_,T_,T_,T_,T_,F_,F_,F_,F_,F_,F_] rfl rfl (b_g HT_.out (by kernel_rfl)) (fun _ _ _ h => h) (Or.inr ⟨by rfl,rfl⟩) ?_ ?_
   rotate_left
   ·simp only [Act.put,List.setIfInBounds_toArray,List.set_cons_zero,List.set_cons_succ,b_m,b_o]
    rfl
   refine b_E (i:=10) (N:=some 55) (v:=undef) (a':=?_) #[T_,T_,T_,T_,T_,T_,T_,T_,T_,T_,T_,F_,F_,F_,F_,F_] rfl rfl (b_g HT_.out (by kernel_rfl)) (fun _ _ _ h => h) (Or.inr ⟨by rfl,rfl⟩) ?_ ?_
   rotate_left
   ·simp only [Act.put,List.setIfInBounds_toArray,List.set_cons_zero,List.set_cons_succ,b_m,b_o]
    rfl
   refine b_E (i:=11) (N:=some 56) (v:=undef) (a':=?_) #[T_,T_,T_,T_,T_,T_,T_,T_,T_,T_,T_,T_,F_,F_,F_,F_] rfl rfl (b_g HT_.out (by kernel_rfl)) (fun _ _ _ h => h) (Or.inr ⟨by rfl,rfl⟩) ?_ ?_
   rotate_left
   ·simp only [Act.put,List.setIfInBounds_toArray,List.set_cons_zero,List.set_cons_succ,b_m,b_o]
    rfl
   refine b_E (i:=12) (N:=some 57) (v:=undef) (a':=?_) #[T_,T_,T_,T_,T_,T_,T_,T_,T_,T_,T_,T_,T_,F_,F_,F_] rfl rfl (b_g HT_.out (by kernel_rfl)) (fun _ _ _ h => h) (Or.inr ⟨by rfl,rfl⟩) ?_ ?_
   rotate_left
   ·simp only [Act.put,List.setIfInBounds_toArray,List.set_cons_zero,List.set_cons_succ,b_m,b_o]
    rfl
   refine b_E (i:=13) (N:=some 58) (v:=undef) (a':=?_) #[T_,T_,T_,T_,T_,T_,T_,T_,T_,T_,T_,T_,T_,T_,F_,F_] rfl rfl (b_g HT_.out (by kernel_rfl)) (fun _ _ _ h => h) (Or.inr ⟨by rfl,rfl⟩) ?_ ?_
   rotate_left
   ·simp only [Act.put,List.setIfInBounds_toArray,List.set_cons_zero,List.set_cons_succ,b_m,b_o]
    rfl
   refine b_E (i:=14) (N:=some 59) (v:=undef) (a':=?_) #[T_,T_,T_,T_,T_,T_,T_,T_,T_,T_,T_,T_,T_,T_,T_,F_] rfl rfl (b_g HT_.out (by kernel_rfl)) (fun _ _ _ h => h) (Or.inr ⟨by rfl,rfl⟩) ?_ ?_
   rotate_left
   ·simp only [Act.put,List.setIfInBounds_toArray,List.set_cons_zero,List.set_cons_succ,b_m,b_o]
    rfl
   refine b_E (i:=15) (N:=some 60) (v:=?_) (a':=?_) #[T_,T_,T_,T_,T_,T_,T_,T_,T_,T_,T_,T_,T_,T_,T_,T_] rfl rfl (b_g HT_.out (by kernel_rfl)) (fun _ _ _ h => h) (Or.inl ⟨by rfl,?_⟩) ?_ ?_
   rotate_left
   ·intro w'
    go_simp
    with_reducible rfl
   rotate_left
   ·simp only [Act.put,List.setIfInBounds_toArray,List.set_cons_zero,List.set_cons_succ,b_m,b_o]
    rfl
   refine g_Q (e_x HT_.out (by kernel_rfl)) ?_
   try go_wp2
   go_ret
   exact ⟨by first|rfl|(simp [a_J,a_H] <;> rfl)|(simp [*, a_J,a_H] <;> rfl),by repeat (first|(with_reducible first|exact HB.out|apply a_g|apply a_d|apply a_h|refine a_b ?_ a_M.out|refine a_b ?_ a_N.out|refine a_b ?_ a_T.out|refine a_b ?_ a_X.out|refine a_b ?_ d_g.out)|exact HB.out)⟩
  subst c35
  have H1 : ((b_s.f k t481 t484).bind fun t493 => (if t493 = a1_4 then (a_n.j0 k a1_0 a1_1 a1_2 a1_3 a1_4 t476) else (some false))) = some r:=by rw [if_pos rfl] at H;exact H
  clear H
  have H:=H1
  clear H1
  replace H:=Option.bind_eq_some_iff.mp H
  obtain ⟨t493,A360,H⟩:=H
  replace H : (if t493 = a1_4 then (a_n.j0 k a1_0 a1_1 a1_2 a1_3 a1_4 t476) else (some false)) = some r:=H
  have A36:=a_a.mk A360
  clear A360
  by_cases c37 : t493 = a1_4
  ·rw [if_pos c37] at H
   have c37b0 : (t493 == a1_4) = true:=beq_iff_eq.mpr c37
   have c37b1 : (t493 != a1_4) = false:=bne_eq_false_iff_eq.mpr c37
   clear c37
   have H':=a_a.mk H
   clear H
   have s_y:=d_a.out
   have s_z:=c_a.out
   have s_A:=b_W.out
   have s_B:=b_y.out
   have s_C:=b_X.out
   have s_D:=b_z.out
   have n_Z : w25.cell? ⟨a_9,0,none⟩ = some (.slice none 0 0):=(a_f a_D.out 0).trans rfl
   have n_0:=a_e a_D.out 0
   have s_E:=b_K.out
   have s_F:=b_J.out
   have s_G:=b_F.out
   have s_H:=b_M.out
   have n_1 : w25.cell? ⟨a_y,0,none⟩ = some (.int .i64 a1_0):=(a_f a_o.out 0).trans rfl
   have n_2 : w25.cell? ⟨a_y,1,none⟩ = some (.int .i64 a1_1):=(a_f a_o.out 1).trans rfl
   have n_3 : w25.cell? ⟨a_y,2,none⟩ = some (.int .i64 a1_2):=(a_f a_o.out 2).trans rfl
   have n_4 : w25.cell? ⟨a_y,3,none⟩ = some (.int .i64 a1_3):=(a_f a_o.out 3).trans rfl
   have n_5 : w25.cell? ⟨a_y,4,none⟩ = some (.int .u32 a1_4):=(a_f a_o.out 4).trans rfl
   have n_6:=a_e a_o.out 0
   have n_7:=a_e a_o.out 1
   have n_8:=a_e a_o.out 2
   have n_9:=a_e a_o.out 3
   have o_a:=a_e a_o.out 4
   try go_wp2_with (first|((with_reducible refine a_z (f:=30) rfl ?_);refine b_h (some 42) rfl rfl Try.func30 (by kernel_rfl) rfl #[.agg #[.slice Ao26 t481.length co26],.int .i64 t484,.int .i64 a1_1] rfl (by (try simp only [List.map_toArray,List.map_cons,List.map_nil]);first|done|rfl|(simp only [List.length_drop,List.length_take];rfl)) ?_;(with_reducible refine (a_0.calls k _ _ t481 t484 a1_1 t487 t490 _ ?side1 ?side2 A32.out).mono ?_);(case side1 => refine (Kd.a_t (e:=31) (base:=w.heap.size) (ok:=fun k_ => (True ∧ some k_ ≠ (.slice Ao17 t476.length co17 : Value).ownBlock)) (n:=t481.length) (c:=co26) ?_).2.2;exact (by (with_reducible repeat (first|apply Kd.a_F|apply Kd.a_E|apply Kd.a_G));exact (Kd.a_L (Kd.a_7 (p:=⟨a_9,0,none⟩) (Kd.a_I b_j.out a_D.out (by decide)) (fun _ hk => hk.2) (.slice Ao26 t481.length co26)) (fun _ h_ => h_.1))));(case side2 => exact (Kd.a_t b_j.out).2.1);rintro e w45 ⟨v488,rfl,ho0,hb⟩;refine ⟨_,rfl,?_⟩;have b_v:=a_a.mk (Kd.a_5 (Kd.b_r (Kd.b_r ho0 (Kd.R_lt (by (with_reducible repeat (first|apply Kd.a_F|apply Kd.a_E|apply Kd.a_G));exact (Kd.a_L (Kd.a_7 (p:=⟨a_9,0,none⟩) (Kd.a_I a_6.out a_D.out (by decide)) (fun _ hk => hk.2) (.slice Ao26 t481.length co26)) (fun _ h_ => h_.1))))) (Kd.R_lt (by (with_reducible repeat (first|apply Kd.a_F|apply Kd.a_E|apply Kd.a_G));exact (Kd.a_L (Kd.a_7 (p:=⟨a_9,0,none⟩) (Kd.a_I b_j.out a_D.out (by decide)) (fun _ hk => hk.2) (.slice Ao26 t481.length co26)) (fun _ h_ => h_.1))))) (a_p (by repeat (first|(with_reducible first|exact HB.out|apply a_g|apply a_d|apply a_h|refine a_b ?_ a_M.out|refine a_b ?_ a_N.out|refine a_b ?_ a_T.out|refine a_b ?_ a_X.out)|exact HB.out))));replace a_6:=a_a.mk (Kd.a_V (by (with_reducible repeat (first|apply Kd.a_F|apply Kd.a_E|apply Kd.a_G));exact (Kd.a_L (Kd.a_7 (p:=⟨a_9,0,none⟩) (Kd.a_I a_6.out a_D.out (by decide)) (fun _ hk => hk.2) (.slice Ao26 t481.length co26)) (fun _ h_ => h_.1))) (Kd.b_n ho0) hb);replace b_j:=a_a.mk (Kd.a_V (by (with_reducible repeat (first|apply Kd.a_F|apply Kd.a_E|apply Kd.a_G));exact (Kd.a_L (Kd.a_7 (p:=⟨a_9,0,none⟩) (Kd.a_I b_j.out a_D.out (by decide)) (fun _ hk => hk.2) (.slice Ao26 t481.length co26)) (fun _ h_ => h_.1))) (Kd.b_n ho0) hb);replace a_B:=a_a.mk (a_c (g:=b_l) (o:=.cells #[.slice A0_0 l0_0.length c0_0] 26 (0,0)) (by (with_reducible repeat (first|refine a_l ?_ _|refine a_k ?_|refine a_m ?_ _));refine a_u ?_ c_a.out _;(with_reducible repeat (first|refine a_l ?_ _|refine a_k ?_|refine a_m ?_ _));exact a_B.out) hb);replace a_o:=a_a.mk (a_c (g:=a_y) (o:=.cells #[.int .i64 a1_0,.int .i64 a1_1,.int .i64 a1_2,.int .i64 a1_3,.int .u32 a1_4] 36 (0,0)) (by (with_reducible repeat (first|refine a_l ?_ _|refine a_k ?_|refine a_m ?_ _));refine a_u ?_ b_y.out _;(with_reducible repeat (first|refine a_l ?_ _|refine a_k ?_|refine a_m ?_ _));exact a_o.out) hb);replace a_C:=a_a.mk (a_c (g:=b_d) (o:=.cells #[.slice Ao17 t476.length co17] 26 (0,0)) (by (with_reducible repeat (first|refine a_l ?_ _|refine a_k ?_|refine a_m ?_ _));refine a_u ?_ b_z.out _;(with_reducible repeat (first|refine a_l ?_ _|refine a_k ?_|refine a_m ?_ _));exact a_C.out) hb);replace a_D:=a_a.mk (a_c (g:=a_9) (o:=.cells #[.slice Ao26 t481.length co26] 26 (0,0)) (by (with_reducible repeat (first|refine a_l ?_ _|refine a_k ?_|refine a_m ?_ _));refine a_R (cs:=#[.slice none 0 0]) ?_ 0 _ rfl;(with_reducible repeat (first|refine a_l ?_ _|refine a_k ?_|refine a_m ?_ _));exact a_D.out) hb);replace HB:=a_a.mk (a_j (by repeat (first|(with_reducible first|exact HB.out|apply a_g|apply a_d|apply a_h|refine a_b ?_ a_M.out|refine a_b ?_ a_N.out|refine a_b ?_ a_T.out|refine a_b ?_ a_X.out)|exact HB.out)) hb);(try clear hb);(try clear hb2);(try clear hk);(try clear hi);(try clear ho0))|((with_reducible refine a_s (N:=9) rfl ?_);refine a_r ?hg (N:=9) ?hd (cs:=#[.slice none 0 0]) (t:=26) ?hr ?_;(case hd => rfl);(case hg => rfl);(case hr => first|(go_simp;done)|(go_simp;rfl));intro a_W hg w46 hbox hb;have b_q:=a_a.mk (hbox);have i_k:=a_a.mk ((by rw [hg];exact (a_p (by repeat (first|(with_reducible first|exact HB.out|apply a_g|apply a_d|apply a_h|refine a_b ?_ a_M.out|refine a_b ?_ a_N.out|refine a_b ?_ a_T.out|refine a_b ?_ a_X.out)|exact HB.out))) : w.heap.size ≤ a_W));have d_g:=a_a.mk ((by rw [hg];exact (a_p (by repeat (first|(with_reducible first|exact HB.out|apply a_g|apply a_d|apply a_h|refine a_b ?_ a_M.out|refine a_b ?_ a_N.out|refine a_b ?_ a_T.out|refine a_b ?_ a_X.out)|exact HB.out))) : w.heap.size ≤ a_W));have b_Y:=a_a.mk ((by rw [hg];exact Nat.ne_of_lt (a_i (bup_ a_B.out)) : b_l ≠ a_W));have c_E:=a_a.mk ((by rw [hg];exact Nat.ne_of_gt (a_i (bup_ a_B.out)) : a_W ≠ b_l));have b_Z:=a_a.mk ((by rw [hg];exact Nat.ne_of_lt (a_i (bup_ a_o.out)) : a_y ≠ a_W));have c_F:=a_a.mk ((by rw [hg];exact Nat.ne_of_gt (a_i (bup_ a_o.out)) : a_W ≠ a_y));have b_0:=a_a.mk ((by rw [hg];exact Nat.ne_of_lt (a_i (bup_ a_C.out)) : b_d ≠ a_W));have c_G:=a_a.mk ((by rw [hg];exact Nat.ne_of_gt (a_i (bup_ a_C.out)) : a_W ≠ b_d));have b_1:=a_a.mk ((by rw [hg];exact Nat.ne_of_lt (a_i (bup_ a_D.out)) : a_9 ≠ a_W));have c_H:=a_a.mk ((by rw [hg];exact Nat.ne_of_gt (a_i (bup_ a_D.out)) : a_W ≠ a_9));replace a_6:=a_a.mk (Kd.a_w (rup_ a_6.out) hb);replace b_j:=a_a.mk (Kd.a_w (rup_ b_j.out) hb);replace b_v:=a_a.mk (Kd.a_w (rup_ b_v.out) hb);replace a_B:=a_a.mk (a_c (bup_ a_B.out) hb);replace a_o:=a_a.mk (a_c (bup_ a_o.out) hb);replace a_C:=a_a.mk (a_c (bup_ a_C.out) hb);replace a_D:=a_a.mk (a_c (bup_ a_D.out) hb);replace HB:=a_a.mk (a_j (by repeat (first|(with_reducible first|exact HB.out|apply a_g|apply a_d|apply a_h|refine a_b ?_ a_M.out|refine a_b ?_ a_N.out|refine a_b ?_ a_T.out|refine a_b ?_ a_X.out)|exact HB.out)) hb);clear hb hbox hg;obtain ⟨Ao47,co47,eo47⟩:=Kd.a_4 b_v.out;subst eo47;have s_I:=c_E.out;have s_J:=b_Y.out;have s_K:=c_F.out;have s_L:=b_Z.out;have s_M:=c_G.out;have s_N:=b_0.out;have s_O:=c_H.out;have s_P:=b_1.out;have o_b : w46.cell? ⟨a_W,0,none⟩ = some (.slice none 0 0):=(a_f b_q.out 0).trans rfl;have o_c:=a_e b_q.out 0))
   have n0_ : a_a (Kd.R (Kd.int .u32) 31 (w46.setCell ⟨a_W,0,none⟩ (.slice Ao47 t487.length co47)) w.heap.size (fun k_ => some k_ ≠ (.slice Ao26 t481.length co26 : Value).ownBlock ∧ some k_ ≠ (.slice Ao47 t487.length co47 : Value).ownBlock) (.slice Ao17 t476.length co17) t476):=⟨by (with_reducible repeat (first|apply Kd.a_F|apply Kd.a_E|apply Kd.a_G));exact Kd.a_L (Kd.a_7 (p:=⟨a_W,0,none⟩) (Kd.a_I a_6.out b_q.out (by decide)) (fun _ hk => hk.2) (.slice Ao47 t487.length co47)) (fun _ hk => ⟨hk.1.1.2,hk.1.2⟩)⟩
   have n1_ : a_a (Kd.R (Kd.int .u32) 31 (w46.setCell ⟨a_W,0,none⟩ (.slice Ao47 t487.length co47)) w.heap.size (fun k_ => some k_ ≠ (.slice Ao17 t476.length co17 : Value).ownBlock ∧ some k_ ≠ (.slice Ao47 t487.length co47 : Value).ownBlock) (.slice Ao26 t481.length co26) t481):=⟨by (with_reducible repeat (first|apply Kd.a_F|apply Kd.a_E|apply Kd.a_G));exact Kd.a_L (Kd.a_7 (p:=⟨a_W,0,none⟩) (Kd.a_I b_j.out b_q.out (by decide)) (fun _ hk => hk.2) (.slice Ao47 t487.length co47)) (fun _ hk => ⟨hk.1.1.2,hk.1.2⟩)⟩
   have n2_ : a_a (Kd.R (Kd.int .u32) 31 (w46.setCell ⟨a_W,0,none⟩ (.slice Ao47 t487.length co47)) w.heap.size (fun k_ => some k_ ≠ (.slice Ao17 t476.length co17 : Value).ownBlock ∧ some k_ ≠ (.slice Ao26 t481.length co26 : Value).ownBlock) (.slice Ao47 t487.length co47) t487):=⟨by (with_reducible repeat (first|apply Kd.a_F|apply Kd.a_E|apply Kd.a_G));exact Kd.a_L (Kd.a_7 (p:=⟨a_W,0,none⟩) (Kd.a_I b_v.out b_q.out (by decide)) (fun _ hk => hk.2) (.slice Ao47 t487.length co47)) (fun _ hk => ⟨hk.1.1.2,hk.1.2⟩)⟩
   have n3_ : a_a ((w46.setCell ⟨a_W,0,none⟩ (.slice Ao47 t487.length co47)).heap[b_l]? = some (.cells #[.slice A0_0 l0_0.length c0_0] 26 (0,0))):=⟨by (with_reducible repeat (first|refine a_l ?_ _|refine a_k ?_|refine a_m ?_ _));refine a_u ?_ b_Y.out _;(with_reducible repeat (first|refine a_l ?_ _|refine a_k ?_|refine a_m ?_ _));exact a_B.out⟩
   have n4_ : a_a ((w46.setCell ⟨a_W,0,none⟩ (.slice Ao47 t487.length co47)).heap[a_y]? = some (.cells #[.int .i64 a1_0,.int .i64 a1_1,.int .i64 a1_2,.int .i64 a1_3,.int .u32 a1_4] 36 (0,0))):=⟨by (with_reducible repeat (first|refine a_l ?_ _|refine a_k ?_|refine a_m ?_ _));refine a_u ?_ b_Z.out _;(with_reducible repeat (first|refine a_l ?_ _|refine a_k ?_|refine a_m ?_ _));exact a_o.out⟩
   have n5_ : a_a ((w46.setCell ⟨a_W,0,none⟩ (.slice Ao47 t487.length co47)).heap[b_d]? = some (.cells #[.slice Ao17 t476.length co17] 26 (0,0))):=⟨by (with_reducible repeat (first|refine a_l ?_ _|refine a_k ?_|refine a_m ?_ _));refine a_u ?_ b_0.out _;(with_reducible repeat (first|refine a_l ?_ _|refine a_k ?_|refine a_m ?_ _));exact a_C.out⟩
   have n6_ : a_a ((w46.setCell ⟨a_W,0,none⟩ (.slice Ao47 t487.length co47)).heap[a_9]? = some (.cells #[.slice Ao26 t481.length co26] 26 (0,0))):=⟨by (with_reducible repeat (first|refine a_l ?_ _|refine a_k ?_|refine a_m ?_ _));refine a_u ?_ b_1.out _;(with_reducible repeat (first|refine a_l ?_ _|refine a_k ?_|refine a_m ?_ _));exact a_D.out⟩
   have n7_ : a_a ((w46.setCell ⟨a_W,0,none⟩ (.slice Ao47 t487.length co47)).heap[a_W]? = some (.cells #[.slice Ao47 t487.length co47] 26 (0,0))):=⟨by (with_reducible repeat (first|refine a_l ?_ _|refine a_k ?_|refine a_m ?_ _));refine a_R (cs:=#[.slice none 0 0]) ?_ 0 _ rfl;(with_reducible repeat (first|refine a_l ?_ _|refine a_k ?_|refine a_m ?_ _));exact b_q.out⟩
   have n8_ : a_a (Below w.heap.size w (w46.setCell ⟨a_W,0,none⟩ (.slice Ao47 t487.length co47))):=⟨by repeat (first|(with_reducible first|exact HB.out|apply a_g|apply a_d|apply a_h|refine a_b ?_ a_M.out|refine a_b ?_ a_N.out|refine a_b ?_ a_T.out|refine a_b ?_ a_X.out|refine a_b ?_ d_g.out)|exact HB.out)⟩
   (try clear a_6)
   (try clear b_j)
   (try clear b_v)
   (try clear a_B)
   (try clear a_o)
   (try clear a_C)
   (try clear a_D)
   (try clear b_q)
   (try clear HB)
   generalize (w46.setCell ⟨a_W,0,none⟩ (.slice Ao47 t487.length co47)) = w53 at n0_ n1_ n2_ n3_ n4_ n5_ n6_ n7_ n8_ ⊢
   have a_6:=n0_
   have b_j:=n1_
   have b_v:=n2_
   have a_B:=n3_
   have a_o:=n4_
   have a_C:=n5_
   have a_D:=n6_
   have b_q:=n7_
   have HB:=n8_
   clear n0_ n1_ n2_ n3_ n4_ n5_ n6_ n7_ n8_
   replace a_6:=a_a.mk (Kd.a_G a_6.out)
   replace b_j:=a_a.mk (Kd.a_G b_j.out)
   replace b_v:=a_a.mk (Kd.a_G b_v.out)
   replace a_B:=a_a.mk (a_k a_B.out)
   replace a_o:=a_a.mk (a_k a_o.out)
   replace a_C:=a_a.mk (a_k a_C.out)
   replace a_D:=a_a.mk (a_k a_D.out)
   replace b_q:=a_a.mk (a_k b_q.out)
   replace HB:=a_a.mk (a_h HB.out)
   refine f_l (n:=16) (S:=fun w' => w'.cell? ⟨a_W,0,none⟩ = some (.slice Ao47 t487.length co47) ∧ w'.cell? ⟨b_d,0,none⟩ = some (.slice Ao17 t476.length co17) ∧ w'.cell? ⟨a_9,0,none⟩ = some (.slice Ao26 t481.length co26) ∧ w'.cell? ⟨a_y,0,none⟩ = some (.int .i64 a1_0) ∧ w'.cell? ⟨a_y,1,none⟩ = some (.int .i64 a1_1) ∧ w'.cell? ⟨a_y,2,none⟩ = some (.int .i64 a1_2) ∧ w'.cell? ⟨a_y,3,none⟩ = some (.int .i64 a1_3) ∧ w'.cell? ⟨a_y,4,none⟩ = some (.int .u32 a1_4)) (ds:=[]) #[F_,F_,F_,F_,F_,F_,F_,F_,F_,F_,F_,F_,F_,F_,F_,F_] (by kernel_rfl) rfl rfl ⟨(a_f b_q.out 0).trans rfl,(a_f a_C.out 0).trans rfl,(a_f a_D.out 0).trans rfl,(a_f a_o.out 0).trans rfl,(a_f a_o.out 1).trans rfl,(a_f a_o.out 2).trans rfl,(a_f a_o.out 3).trans rfl,(a_f a_o.out 4).trans rfl⟩ (fun hHeld => ?_);refine d_w a_n.tab9 a_n.g_P (fun HT_ HW_ => ?_)
   generalize w53.drew = w54 at a_6 b_j b_v a_B a_o a_C a_D b_q HB hHeld ⊢
   refine b_E (i:=0) (N:=some 45) (v:=?_) (a':=?_) #[T_,F_,F_,F_,F_,F_,F_,F_,F_,F_,F_,F_,F_,F_,F_,F_] rfl rfl (b_g HT_.out (by kernel_rfl)) (fun _ _ _ h => h) (Or.inl ⟨by rfl,?_⟩) ?_ ?_
   rotate_left
   ·intro w'
    go_simp
    with_reducible rfl
   rotate_left
   ·simp only [Act.put,List.setIfInBounds_toArray,List.set_cons_zero,List.set_cons_succ,b_m,b_o]
    rfl
   refine b_E (i:=1) (N:=some 46) (v:=?_) (a':=?_) #[T_,T_,F_,F_,F_,F_,F_,F_,F_,F_,F_,F_,F_,F_,F_,F_] rfl rfl (b_g HT_.out (by kernel_rfl)) (fun _ _ _ h => h) (Or.inl ⟨by rfl,?_⟩) ?_ ?_
   rotate_left
   ·intro w'
    go_simp
    with_reducible rfl
   rotate_left
   ·simp only [Act.put,List.setIfInBounds_toArray,List.set_cons_zero,List.set_cons_succ,b_m,b_o]
    rfl
   refine b_E (i:=2) (N:=some 47) (v:=?_) (a':=?_) #[T_,T_,T_,F_,F_,F_,F_,F_,F_,F_,F_,F_,F_,F_,F_,F_] rfl rfl (b_g HT_.out (by kernel_rfl)) (fun _ _ _ h => h) (Or.inl ⟨by rfl,?_⟩) ?_ ?_
   rotate_left
   ·intro w'
    go_simp
    with_reducible rfl
   rotate_left
   ·simp only [Act.put,List.setIfInBounds_toArray,List.set_cons_zero,List.set_cons_succ,b_m,b_o]
    rfl
   refine d_C (i:=3) (N:=some 48) (v:=?_) (a':=?_) #[T_,T_,T_,T_,F_,F_,F_,F_,F_,F_,F_,F_,F_,F_,F_,F_] rfl rfl (c_v HT_.out HW_.out (by kernel_rfl)) (fun _ _ _ h => h) (Or.inl ⟨by rfl,?_⟩) hHeld ?_ ?_
   rotate_left
   ·rintro w' ⟨s0,s1,s2,s3,s4,s5,s6,s7⟩
    go_simp
    with_reducible rfl
   rotate_left
   ·simp only [Act.put,List.setIfInBounds_toArray,List.set_cons_zero,List.set_cons_succ,b_m,b_o]
    rfl
   refine d_C (i:=4) (N:=some 49) (v:=?_) (a':=?_) #[T_,T_,T_,T_,T_,F_,F_,F_,F_,F_,F_,F_,F_,F_,F_,F_] rfl rfl (c_v HT_.out HW_.out (by kernel_rfl)) (fun _ _ _ h => h) (Or.inl ⟨by rfl,?_⟩) hHeld ?_ ?_
   rotate_left
   ·rintro w' ⟨s0,s1,s2,s3,s4,s5,s6,s7⟩
    go_simp
    with_reducible rfl
   rotate_left
   ·simp only [Act.put,List.setIfInBounds_toArray,List.set_cons_zero,List.set_cons_succ,b_m,b_o]
    rfl
   refine one_ (i:=5) (N:=some 50) #[T_,T_,T_,T_,T_,T_,F_,F_,F_,F_,F_,F_,F_,F_,F_,F_] rfl rfl (e_N HT_.out (by kernel_rfl)) (by decide) (fun K hK => ?_)
   refine f_V Try.func18 (by kernel_rfl) rfl #[.agg #[.slice Ao47 t487.length co47],.agg #[.slice Ao17 t476.length co17]] (by rfl) rfl rfl (by (try simp only [List.map_toArray,List.map_cons,List.map_nil]);first|done|rfl|(simp only [List.length_drop,List.length_take];rfl)) ?_
   with_reducible refine (a_1.calls k _ _ t487 _ _ t476 true _ ?side1 ?side2 ?side3 ?side4 A34.out).mono ?_
   (case side1 => repeat (first|exact (Kd.a_t b_v.out).2.2|(with_reducible refine Kd.b_a ?_ _)|(with_reducible refine Kd.b_c ?_ _)|(with_reducible refine Kd.b_p ?_)))
   (case side2 => exact (Kd.a_t b_v.out).2.1)
   (case side3 => repeat (first|exact (Kd.a_t a_6.out).2.2|(with_reducible refine Kd.b_a ?_ _)|(with_reducible refine Kd.b_c ?_ _)|(with_reducible refine Kd.b_p ?_)))
   (case side4 => exact (Kd.a_t a_6.out).2.1)
   rintro e w55 ⟨rfl,hb⟩
   refine ⟨_,rfl,?_⟩
   replace a_6:=a_a.mk (Kd.a_w (rup_ a_6.out) hb)
   replace b_j:=a_a.mk (Kd.a_w (rup_ b_j.out) hb)
   replace b_v:=a_a.mk (Kd.a_w (rup_ b_v.out) hb)
   replace a_B:=a_a.mk (a_c (bup_ a_B.out) hb)
   replace a_o:=a_a.mk (a_c (bup_ a_o.out) hb)
   replace a_C:=a_a.mk (a_c (bup_ a_C.out) hb)
   replace a_D:=a_a.mk (a_c (bup_ a_D.out) hb)
   replace b_q:=a_a.mk (a_c (bup_ b_q.out) hb)
   replace HB:=a_a.mk (a_j (by repeat (first|(with_reducible first|exact HB.out|apply a_g|apply a_d|apply a_h|refine a_b ?_ a_M.out|refine a_b ?_ a_N.out|refine a_b ?_ a_T.out|refine a_b ?_ a_X.out|refine a_b ?_ d_g.out)|exact HB.out)) hb)
   (try clear hb)
   (try clear hb2)
   (try clear hk)
   (try clear hi)
   refine hK.out _ _ ⟨(a_f b_q.out 0).trans rfl,(a_f a_C.out 0).trans rfl,(a_f a_D.out 0).trans rfl,(a_f a_o.out 0).trans rfl,(a_f a_o.out 1).trans rfl,(a_f a_o.out 2).trans rfl,(a_f a_o.out 3).trans rfl,(a_f a_o.out 4).trans rfl⟩ (fun hHeld => ?_)
   clear hK K
   refine f_8 (a':=?_) ?_ ?_
   rotate_left
   ·show Act.put _ (some 50) _ = _
    simp only [Act.put,List.setIfInBounds_toArray,List.set_cons_zero,List.set_cons_succ,b_m,b_o]
    rfl
   refine b_E (i:=6) (N:=some 51) (v:=?_) (a':=?_) #[T_,T_,T_,T_,T_,T_,T_,F_,F_,F_,F_,F_,F_,F_,F_,F_] rfl rfl (b_g HT_.out (by kernel_rfl)) (fun _ _ _ h => h) (Or.inl ⟨by rfl,?_⟩) ?_ ?_
   rotate_left
   ·intro w'
    go_simp
    with_reducible rfl
   rotate_left
   ·simp only [Act.put,List.setIfInBounds_toArray,List.set_cons_zero,List.set_cons_succ,b_m,b_o]
    rfl
   refine b_E (i:=7) (N:=some 52) (v:=?_) (a':=?_) #[T_,T_,T_,T_,T_,T_,T_,T_,F_,F_,F_,F_,F_,F_,F_,F_] rfl rfl (b_g HT_.out (by kernel_rfl)) (fun _ _ _ h => h) (Or.inl ⟨by rfl,?_⟩) ?_ ?_
   rotate_left
   ·intro w'
    go_simp
    with_reducible rfl
   rotate_left
   ·simp only [Act.put,List.setIfInBounds_toArray,List.set_cons_zero,List.set_cons_succ,b_m,b_o]
    rfl
   refine b_E (i:=8) (N:=some 53) (v:=?_) (a':=?_) #[T_,T_,T_,T_,T_,T_,T_,T_,T_,F_,F_,F_,F_,F_,F_,F_] rfl rfl (b_g HT_.out (by kernel_rfl)) (fun _ _ _ h => h) (Or.inl ⟨by rfl,?_⟩) ?_ ?_
   rotate_left
   ·intro w'
    go_simp
    with_reducible rfl
   rotate_left
   ·simp only [Act.put,List.setIfInBounds_toArray,List.set_cons_zero,List.set_cons_succ,b_m,b_o]
    rfl
   refine b_E (i:=10) (N:=some 55) (v:=?_) (a':=?_) #[T_,T_,T_,T_,T_,T_,T_,T_,T_,F_,T_,F_,F_,F_,F_,F_] rfl rfl (b_g HT_.out (by kernel_rfl)) (fun _ _ _ h => h) (Or.inl ⟨by rfl,?_⟩) ?_ ?_
   rotate_left
   ·intro w'
    go_simp
    with_reducible rfl
   rotate_left
   ·simp only [Act.put,List.setIfInBounds_toArray,List.set_cons_zero,List.set_cons_succ,b_m,b_o]
    rfl
   refine b_E (i:=12) (N:=some 57) (v:=?_) (a':=?_) #[T_,T_,T_,T_,T_,T_,T_,T_,T_,F_,T_,F_,T_,F_,F_,F_] rfl rfl (b_g HT_.out (by kernel_rfl)) (fun _ _ _ h => h) (Or.inl ⟨by rfl,?_⟩) ?_ ?_
   rotate_left
   ·intro w'
    go_simp
    with_reducible rfl
   rotate_left
   ·simp only [Act.put,List.setIfInBounds_toArray,List.set_cons_zero,List.set_cons_succ,b_m,b_o]
    rfl
   refine d_C (i:=9) (N:=some 54) (v:=?_) (a':=?_) #[T_,T_,T_,T_,T_,T_,T_,T_,T_,T_,T_,F_,T_,F_,F_,F_] rfl rfl (c_v HT_.out HW_.out (by kernel_rfl)) (fun _ _ _ h => h) (Or.inl ⟨by rfl,?_⟩) hHeld ?_ ?_
   rotate_left
   ·rintro w' ⟨s0,s1,s2,s3,s4,s5,s6,s7⟩
    go_simp
    with_reducible rfl
   rotate_left
   ·simp only [Act.put,List.setIfInBounds_toArray,List.set_cons_zero,List.set_cons_succ,b_m,b_o]
    rfl
   refine d_C (i:=13) (N:=some 58) (v:=?_) (a':=?_) #[T_,T_,T_,T_,T_,T_,T_,T_,T_,T_,T_,F_,T_,T_,F_,F_] rfl rfl (c_v HT_.out HW_.out (by kernel_rfl)) (fun _ _ _ h => h) (Or.inl ⟨by rfl,?_⟩) hHeld ?_ ?_
   rotate_left
   ·rintro w' ⟨s0,s1,s2,s3,s4,s5,s6,s7⟩
    go_simp
    with_reducible rfl
   rotate_left
   ·simp only [Act.put,List.setIfInBounds_toArray,List.set_cons_zero,List.set_cons_succ,b_m,b_o]
    rfl
   refine one_ (i:=11) (N:=some 56) #[T_,T_,T_,T_,T_,T_,T_,T_,T_,T_,T_,T_,T_,T_,F_,F_] rfl rfl (e_N HT_.out (by kernel_rfl)) (by decide) (fun K hK => ?_)
   refine f_V Try.func23 (by kernel_rfl) rfl #[.agg #[.slice Ao26 t481.length co26],.int .i64 t484] (by rfl) rfl rfl (by (try simp only [List.map_toArray,List.map_cons,List.map_nil]);first|done|rfl|(simp only [List.length_drop,List.length_take];rfl)) ?_
   with_reducible refine (b_s.calls k _ _ t481 t484 t493 _ ?side1 ?side2 A36.out).mono ?_
   (case side1 => repeat (first|exact (Kd.a_t b_j.out).2.2|(with_reducible refine Kd.b_a ?_ _)|(with_reducible refine Kd.b_c ?_ _)|(with_reducible refine Kd.b_p ?_)))
   (case side2 => exact (Kd.a_t b_j.out).2.1)
   rintro e w56 ⟨rfl,hb⟩
   refine ⟨_,rfl,?_⟩
   replace a_6:=a_a.mk (Kd.a_w (rup_ a_6.out) hb)
   replace b_j:=a_a.mk (Kd.a_w (rup_ b_j.out) hb)
   replace b_v:=a_a.mk (Kd.a_w (rup_ b_v.out) hb)
   replace a_B:=a_a.mk (a_c (bup_ a_B.out) hb)
   replace a_o:=a_a.mk (a_c (bup_ a_o.out) hb)
   replace a_C:=a_a.mk (a_c (bup_ a_C.out) hb)
   replace a_D:=a_a.mk (a_c (bup_ a_D.out) hb)
   replace b_q:=a_a.mk (a_c (bup_ b_q.out) hb)
   replace HB:=a_a.mk (a_j (by repeat (first|(with_reducible first|exact HB.out|apply a_g|apply a_d|apply a_h|refine a_b ?_ a_M.out|refine a_b ?_ a_N.out|refine a_b ?_ a_T.out|refine a_b ?_ a_X.out|refine a_b ?_ d_g.out)|exact HB.out)) hb)
   (try clear hb)
   (try clear hb2)
   (try clear hk)
   (try clear hi)
   refine hK.out _ _ ⟨(a_f b_q.out 0).trans rfl,(a_f a_C.out 0).trans rfl,(a_f a_D.out 0).trans rfl,(a_f a_o.out 0).trans rfl,(a_f a_o.out 1).trans rfl,(a_f a_o.out 2).trans rfl,(a_f a_o.out 3).trans rfl,(a_f a_o.out 4).trans rfl⟩ (fun hHeld => ?_)
   clear hK K
   refine f_8 (a':=?_) ?_ ?_
   rotate_left
   ·show Act.put _ (some 56) _ = _
    simp only [Act.put,List.setIfInBounds_toArray,List.set_cons_zero,List.set_cons_succ,b_m,b_o]
    rfl
   refine b_E (i:=14) (N:=some 59) (v:=?_) (a':=?_) #[T_,T_,T_,T_,T_,T_,T_,T_,T_,T_,T_,T_,T_,T_,T_,F_] rfl rfl (b_g HT_.out (by kernel_rfl)) (fun _ _ _ h => h) (Or.inl ⟨by rfl,?_⟩) ?_ ?_
   rotate_left
   ·intro w'
    go_simp
    with_reducible rfl
   rotate_left
   ·simp only [Act.put,List.setIfInBounds_toArray,List.set_cons_zero,List.set_cons_succ,b_m,b_o]
    rfl
   refine b_E (i:=15) (N:=some 60) (v:=?_) (a':=?_) #[T_,T_,T_,T_,T_,T_,T_,T_,T_,T_,T_,T_,T_,T_,T_,T_] rfl rfl (b_g HT_.out (by kernel_rfl)) (fun _ _ _ h => h) (Or.inl ⟨by rfl,?_⟩) ?_ ?_
   rotate_left
   ·intro w'
    go_simp
    with_reducible rfl
   rotate_left
   ·simp only [Act.put,List.setIfInBounds_toArray,List.set_cons_zero,List.set_cons_succ,b_m,b_o]
    rfl
   refine g_Q (e_x HT_.out (by kernel_rfl)) ?_
   try go_wp2
   go_meet
   case rel => exact ⟨_,H',⟨by first|omega|exact Nat.le_refl _⟩,⟨by (with_reducible repeat (first|apply Kd.a_F|apply Kd.a_E|apply Kd.a_G));exact Kd.a_L a_6.out (fun _ hk => hk.1)⟩,⟨by (with_reducible repeat (first|apply Kd.a_F|apply Kd.a_E|apply Kd.a_G));exact Kd.a_L b_j.out (fun _ hk => hk.1)⟩,⟨by (with_reducible repeat (first|refine a_l ?_ _|refine a_k ?_|refine a_m ?_ _));exact a_B.out⟩,⟨by (with_reducible repeat (first|refine a_l ?_ _|refine a_k ?_|refine a_m ?_ _));exact a_o.out⟩,⟨by (with_reducible repeat (first|refine a_l ?_ _|refine a_k ?_|refine a_m ?_ _));exact a_C.out⟩,⟨by (with_reducible repeat (first|refine a_l ?_ _|refine a_k ?_|refine a_m ?_ _));exact a_D.out⟩,⟨by repeat (first|(with_reducible first|exact HB.out|apply a_g|apply a_d|apply a_h|refine a_b ?_ a_M.out|refine a_b ?_ a_N.out|refine a_b ?_ a_T.out|refine a_b ?_ a_X.out|refine a_b ?_ d_g.out)|exact HB.out)⟩⟩
  rw [if_neg c37] at H
  have c37b0 : (t493 == a1_4) = false:=beq_eq_false_iff_ne.mpr c37
  have c37b1 : (t493 != a1_4) = true:=bne_iff_ne.mpr c37
  obtain rfl:=Option.some.inj H
  have s_Q:=d_a.out
  have s_R:=c_a.out
  have s_S:=b_W.out
  have s_T:=b_y.out
  have s_U:=b_X.out
  have s_V:=b_z.out
  have o_d : w25.cell? ⟨a_9,0,none⟩ = some (.slice none 0 0):=(a_f a_D.out 0).trans rfl
  have o_e:=a_e a_D.out 0
  have s_W:=b_K.out
  have s_X:=b_J.out
  have s_Y:=b_F.out
  have s_Z:=b_M.out
  have o_f : w25.cell? ⟨a_y,0,none⟩ = some (.int .i64 a1_0):=(a_f a_o.out 0).trans rfl
  have o_g : w25.cell? ⟨a_y,1,none⟩ = some (.int .i64 a1_1):=(a_f a_o.out 1).trans rfl
  have o_h : w25.cell? ⟨a_y,2,none⟩ = some (.int .i64 a1_2):=(a_f a_o.out 2).trans rfl
  have o_i : w25.cell? ⟨a_y,3,none⟩ = some (.int .i64 a1_3):=(a_f a_o.out 3).trans rfl
  have o_j : w25.cell? ⟨a_y,4,none⟩ = some (.int .u32 a1_4):=(a_f a_o.out 4).trans rfl
  have o_k:=a_e a_o.out 0
  have o_l:=a_e a_o.out 1
  have o_m:=a_e a_o.out 2
  have o_n:=a_e a_o.out 3
  have o_o:=a_e a_o.out 4
  try go_wp2_with (first|((with_reducible refine a_z (f:=30) rfl ?_);refine b_h (some 42) rfl rfl Try.func30 (by kernel_rfl) rfl #[.agg #[.slice Ao26 t481.length co26],.int .i64 t484,.int .i64 a1_1] rfl (by (try simp only [List.map_toArray,List.map_cons,List.map_nil]);first|done|rfl|(simp only [List.length_drop,List.length_take];rfl)) ?_;(with_reducible refine (a_0.calls k _ _ t481 t484 a1_1 t487 t490 _ ?side1 ?side2 A32.out).mono ?_);(case side1 => refine (Kd.a_t (e:=31) (base:=w.heap.size) (ok:=fun k_ => (True ∧ some k_ ≠ (.slice Ao17 t476.length co17 : Value).ownBlock)) (n:=t481.length) (c:=co26) ?_).2.2;exact (by (with_reducible repeat (first|apply Kd.a_F|apply Kd.a_E|apply Kd.a_G));exact (Kd.a_L (Kd.a_7 (p:=⟨a_9,0,none⟩) (Kd.a_I b_j.out a_D.out (by decide)) (fun _ hk => hk.2) (.slice Ao26 t481.length co26)) (fun _ h_ => h_.1))));(case side2 => exact (Kd.a_t b_j.out).2.1);rintro e w64 ⟨v488,rfl,ho0,hb⟩;refine ⟨_,rfl,?_⟩;have b_v:=a_a.mk (Kd.a_5 (Kd.b_r (Kd.b_r ho0 (Kd.R_lt (by (with_reducible repeat (first|apply Kd.a_F|apply Kd.a_E|apply Kd.a_G));exact (Kd.a_L (Kd.a_7 (p:=⟨a_9,0,none⟩) (Kd.a_I a_6.out a_D.out (by decide)) (fun _ hk => hk.2) (.slice Ao26 t481.length co26)) (fun _ h_ => h_.1))))) (Kd.R_lt (by (with_reducible repeat (first|apply Kd.a_F|apply Kd.a_E|apply Kd.a_G));exact (Kd.a_L (Kd.a_7 (p:=⟨a_9,0,none⟩) (Kd.a_I b_j.out a_D.out (by decide)) (fun _ hk => hk.2) (.slice Ao26 t481.length co26)) (fun _ h_ => h_.1))))) (a_p (by repeat (first|(with_reducible first|exact HB.out|apply a_g|apply a_d|apply a_h|refine a_b ?_ a_M.out|refine a_b ?_ a_N.out|refine a_b ?_ a_T.out|refine a_b ?_ a_X.out)|exact HB.out))));replace a_6:=a_a.mk (Kd.a_V (by (with_reducible repeat (first|apply Kd.a_F|apply Kd.a_E|apply Kd.a_G));exact (Kd.a_L (Kd.a_7 (p:=⟨a_9,0,none⟩) (Kd.a_I a_6.out a_D.out (by decide)) (fun _ hk => hk.2) (.slice Ao26 t481.length co26)) (fun _ h_ => h_.1))) (Kd.b_n ho0) hb);replace b_j:=a_a.mk (Kd.a_V (by (with_reducible repeat (first|apply Kd.a_F|apply Kd.a_E|apply Kd.a_G));exact (Kd.a_L (Kd.a_7 (p:=⟨a_9,0,none⟩) (Kd.a_I b_j.out a_D.out (by decide)) (fun _ hk => hk.2) (.slice Ao26 t481.length co26)) (fun _ h_ => h_.1))) (Kd.b_n ho0) hb);replace a_B:=a_a.mk (a_c (g:=b_l) (o:=.cells #[.slice A0_0 l0_0.length c0_0] 26 (0,0)) (by (with_reducible repeat (first|refine a_l ?_ _|refine a_k ?_|refine a_m ?_ _));refine a_u ?_ c_a.out _;(with_reducible repeat (first|refine a_l ?_ _|refine a_k ?_|refine a_m ?_ _));exact a_B.out) hb);replace a_o:=a_a.mk (a_c (g:=a_y) (o:=.cells #[.int .i64 a1_0,.int .i64 a1_1,.int .i64 a1_2,.int .i64 a1_3,.int .u32 a1_4] 36 (0,0)) (by (with_reducible repeat (first|refine a_l ?_ _|refine a_k ?_|refine a_m ?_ _));refine a_u ?_ b_y.out _;(with_reducible repeat (first|refine a_l ?_ _|refine a_k ?_|refine a_m ?_ _));exact a_o.out) hb);replace a_C:=a_a.mk (a_c (g:=b_d) (o:=.cells #[.slice Ao17 t476.length co17] 26 (0,0)) (by (with_reducible repeat (first|refine a_l ?_ _|refine a_k ?_|refine a_m ?_ _));refine a_u ?_ b_z.out _;(with_reducible repeat (first|refine a_l ?_ _|refine a_k ?_|refine a_m ?_ _));exact a_C.out) hb);replace a_D:=a_a.mk (a_c (g:=a_9) (o:=.cells #[.slice Ao26 t481.length co26] 26 (0,0)) (by (with_reducible repeat (first|refine a_l ?_ _|refine a_k ?_|refine a_m ?_ _));refine a_R (cs:=#[.slice none 0 0]) ?_ 0 _ rfl;(with_reducible repeat (first|refine a_l ?_ _|refine a_k ?_|refine a_m ?_ _));exact a_D.out) hb);replace HB:=a_a.mk (a_j (by repeat (first|(with_reducible first|exact HB.out|apply a_g|apply a_d|apply a_h|refine a_b ?_ a_M.out|refine a_b ?_ a_N.out|refine a_b ?_ a_T.out|refine a_b ?_ a_X.out)|exact HB.out)) hb);(try clear hb);(try clear hb2);(try clear hk);(try clear hi);(try clear ho0))|((with_reducible refine a_s (N:=9) rfl ?_);refine a_r ?hg (N:=9) ?hd (cs:=#[.slice none 0 0]) (t:=26) ?hr ?_;(case hd => rfl);(case hg => rfl);(case hr => first|(go_simp;done)|(go_simp;rfl));intro a_W hg w65 hbox hb;have b_q:=a_a.mk (hbox);have i_k:=a_a.mk ((by rw [hg];exact (a_p (by repeat (first|(with_reducible first|exact HB.out|apply a_g|apply a_d|apply a_h|refine a_b ?_ a_M.out|refine a_b ?_ a_N.out|refine a_b ?_ a_T.out|refine a_b ?_ a_X.out)|exact HB.out))) : w.heap.size ≤ a_W));have d_g:=a_a.mk ((by rw [hg];exact (a_p (by repeat (first|(with_reducible first|exact HB.out|apply a_g|apply a_d|apply a_h|refine a_b ?_ a_M.out|refine a_b ?_ a_N.out|refine a_b ?_ a_T.out|refine a_b ?_ a_X.out)|exact HB.out))) : w.heap.size ≤ a_W));have b_Y:=a_a.mk ((by rw [hg];exact Nat.ne_of_lt (a_i (bup_ a_B.out)) : b_l ≠ a_W));have c_E:=a_a.mk ((by rw [hg];exact Nat.ne_of_gt (a_i (bup_ a_B.out)) : a_W ≠ b_l));have b_Z:=a_a.mk ((by rw [hg];exact Nat.ne_of_lt (a_i (bup_ a_o.out)) : a_y ≠ a_W));have c_F:=a_a.mk ((by rw [hg];exact Nat.ne_of_gt (a_i (bup_ a_o.out)) : a_W ≠ a_y));have b_0:=a_a.mk ((by rw [hg];exact Nat.ne_of_lt (a_i (bup_ a_C.out)) : b_d ≠ a_W));have c_G:=a_a.mk ((by rw [hg];exact Nat.ne_of_gt (a_i (bup_ a_C.out)) : a_W ≠ b_d));have b_1:=a_a.mk ((by rw [hg];exact Nat.ne_of_lt (a_i (bup_ a_D.out)) : a_9 ≠ a_W));have c_H:=a_a.mk ((by rw [hg];exact Nat.ne_of_gt (a_i (bup_ a_D.out)) : a_W ≠ a_9));replace a_6:=a_a.mk (Kd.a_w (rup_ a_6.out) hb);replace b_j:=a_a.mk (Kd.a_w (rup_ b_j.out) hb);replace b_v:=a_a.mk (Kd.a_w (rup_ b_v.out) hb);replace a_B:=a_a.mk (a_c (bup_ a_B.out) hb);replace a_o:=a_a.mk (a_c (bup_ a_o.out) hb);replace a_C:=a_a.mk (a_c (bup_ a_C.out) hb);replace a_D:=a_a.mk (a_c (bup_ a_D.out) hb);replace HB:=a_a.mk (a_j (by repeat (first|(with_reducible first|exact HB.out|apply a_g|apply a_d|apply a_h|refine a_b ?_ a_M.out|refine a_b ?_ a_N.out|refine a_b ?_ a_T.out|refine a_b ?_ a_X.out)|exact HB.out)) hb);clear hb hbox hg;obtain ⟨Ao66,co66,eo66⟩:=Kd.a_4 b_v.out;subst eo66;have s_0:=c_E.out;have s_1:=b_Y.out;have s_2:=c_F.out;have s_3:=b_Z.out;have s_4:=c_G.out;have s_5:=b_0.out;have s_6:=c_H.out;have s_7:=b_1.out;have o_p : w65.cell? ⟨a_W,0,none⟩ = some (.slice none 0 0):=(a_f b_q.out 0).trans rfl;have o_q:=a_e b_q.out 0))
  have n0_ : a_a (Kd.R (Kd.int .u32) 31 (w65.setCell ⟨a_W,0,none⟩ (.slice Ao66 t487.length co66)) w.heap.size (fun k_ => some k_ ≠ (.slice Ao26 t481.length co26 : Value).ownBlock ∧ some k_ ≠ (.slice Ao66 t487.length co66 : Value).ownBlock) (.slice Ao17 t476.length co17) t476):=⟨by (with_reducible repeat (first|apply Kd.a_F|apply Kd.a_E|apply Kd.a_G));exact Kd.a_L (Kd.a_7 (p:=⟨a_W,0,none⟩) (Kd.a_I a_6.out b_q.out (by decide)) (fun _ hk => hk.2) (.slice Ao66 t487.length co66)) (fun _ hk => ⟨hk.1.1.2,hk.1.2⟩)⟩
  have n1_ : a_a (Kd.R (Kd.int .u32) 31 (w65.setCell ⟨a_W,0,none⟩ (.slice Ao66 t487.length co66)) w.heap.size (fun k_ => some k_ ≠ (.slice Ao17 t476.length co17 : Value).ownBlock ∧ some k_ ≠ (.slice Ao66 t487.length co66 : Value).ownBlock) (.slice Ao26 t481.length co26) t481):=⟨by (with_reducible repeat (first|apply Kd.a_F|apply Kd.a_E|apply Kd.a_G));exact Kd.a_L (Kd.a_7 (p:=⟨a_W,0,none⟩) (Kd.a_I b_j.out b_q.out (by decide)) (fun _ hk => hk.2) (.slice Ao66 t487.length co66)) (fun _ hk => ⟨hk.1.1.2,hk.1.2⟩)⟩
  have n2_ : a_a (Kd.R (Kd.int .u32) 31 (w65.setCell ⟨a_W,0,none⟩ (.slice Ao66 t487.length co66)) w.heap.size (fun k_ => some k_ ≠ (.slice Ao17 t476.length co17 : Value).ownBlock ∧ some k_ ≠ (.slice Ao26 t481.length co26 : Value).ownBlock) (.slice Ao66 t487.length co66) t487):=⟨by (with_reducible repeat (first|apply Kd.a_F|apply Kd.a_E|apply Kd.a_G));exact Kd.a_L (Kd.a_7 (p:=⟨a_W,0,none⟩) (Kd.a_I b_v.out b_q.out (by decide)) (fun _ hk => hk.2) (.slice Ao66 t487.length co66)) (fun _ hk => ⟨hk.1.1.2,hk.1.2⟩)⟩
  have n3_ : a_a ((w65.setCell ⟨a_W,0,none⟩ (.slice Ao66 t487.length co66)).heap[b_l]? = some (.cells #[.slice A0_0 l0_0.length c0_0] 26 (0,0))):=⟨by (with_reducible repeat (first|refine a_l ?_ _|refine a_k ?_|refine a_m ?_ _));refine a_u ?_ b_Y.out _;(with_reducible repeat (first|refine a_l ?_ _|refine a_k ?_|refine a_m ?_ _));exact a_B.out⟩
  have n4_ : a_a ((w65.setCell ⟨a_W,0,none⟩ (.slice Ao66 t487.length co66)).heap[a_y]? = some (.cells #[.int .i64 a1_0,.int .i64 a1_1,.int .i64 a1_2,.int .i64 a1_3,.int .u32 a1_4] 36 (0,0))):=⟨by (with_reducible repeat (first|refine a_l ?_ _|refine a_k ?_|refine a_m ?_ _));refine a_u ?_ b_Z.out _;(with_reducible repeat (first|refine a_l ?_ _|refine a_k ?_|refine a_m ?_ _));exact a_o.out⟩
  have n5_ : a_a ((w65.setCell ⟨a_W,0,none⟩ (.slice Ao66 t487.length co66)).heap[b_d]? = some (.cells #[.slice Ao17 t476.length co17] 26 (0,0))):=⟨by (with_reducible repeat (first|refine a_l ?_ _|refine a_k ?_|refine a_m ?_ _));refine a_u ?_ b_0.out _;(with_reducible repeat (first|refine a_l ?_ _|refine a_k ?_|refine a_m ?_ _));exact a_C.out⟩
  have n6_ : a_a ((w65.setCell ⟨a_W,0,none⟩ (.slice Ao66 t487.length co66)).heap[a_9]? = some (.cells #[.slice Ao26 t481.length co26] 26 (0,0))):=⟨by (with_reducible repeat (first|refine a_l ?_ _|refine a_k ?_|refine a_m ?_ _));refine a_u ?_ b_1.out _;(with_reducible repeat (first|refine a_l ?_ _|refine a_k ?_|refine a_m ?_ _));exact a_D.out⟩
  have n7_ : a_a ((w65.setCell ⟨a_W,0,none⟩ (.slice Ao66 t487.length co66)).heap[a_W]? = some (.cells #[.slice Ao66 t487.length co66] 26 (0,0))):=⟨by (with_reducible repeat (first|refine a_l ?_ _|refine a_k ?_|refine a_m ?_ _));refine a_R (cs:=#[.slice none 0 0]) ?_ 0 _ rfl;(with_reducible repeat (first|refine a_l ?_ _|refine a_k ?_|refine a_m ?_ _));exact b_q.out⟩
  have n8_ : a_a (Below w.heap.size w (w65.setCell ⟨a_W,0,none⟩ (.slice Ao66 t487.length co66))):=⟨by repeat (first|(with_reducible first|exact HB.out|apply a_g|apply a_d|apply a_h|refine a_b ?_ a_M.out|refine a_b ?_ a_N.out|refine a_b ?_ a_T.out|refine a_b ?_ a_X.out|refine a_b ?_ d_g.out)|exact HB.out)⟩
  (try clear a_6)
  (try clear b_j)
  (try clear b_v)
  (try clear a_B)
  (try clear a_o)
  (try clear a_C)
  (try clear a_D)
  (try clear b_q)
  (try clear HB)
  generalize (w65.setCell ⟨a_W,0,none⟩ (.slice Ao66 t487.length co66)) = w72 at n0_ n1_ n2_ n3_ n4_ n5_ n6_ n7_ n8_ ⊢
  have a_6:=n0_
  have b_j:=n1_
  have b_v:=n2_
  have a_B:=n3_
  have a_o:=n4_
  have a_C:=n5_
  have a_D:=n6_
  have b_q:=n7_
  have HB:=n8_
  clear n0_ n1_ n2_ n3_ n4_ n5_ n6_ n7_ n8_
  replace a_6:=a_a.mk (Kd.a_G a_6.out)
  replace b_j:=a_a.mk (Kd.a_G b_j.out)
  replace b_v:=a_a.mk (Kd.a_G b_v.out)
  replace a_B:=a_a.mk (a_k a_B.out)
  replace a_o:=a_a.mk (a_k a_o.out)
  replace a_C:=a_a.mk (a_k a_C.out)
  replace a_D:=a_a.mk (a_k a_D.out)
  replace b_q:=a_a.mk (a_k b_q.out)
  replace HB:=a_a.mk (a_h HB.out)
  refine f_l (n:=16) (S:=fun w' => w'.cell? ⟨a_W,0,none⟩ = some (.slice Ao66 t487.length co66) ∧ w'.cell? ⟨b_d,0,none⟩ = some (.slice Ao17 t476.length co17) ∧ w'.cell? ⟨a_9,0,none⟩ = some (.slice Ao26 t481.length co26) ∧ w'.cell? ⟨a_y,0,none⟩ = some (.int .i64 a1_0) ∧ w'.cell? ⟨a_y,1,none⟩ = some (.int .i64 a1_1) ∧ w'.cell? ⟨a_y,2,none⟩ = some (.int .i64 a1_2) ∧ w'.cell? ⟨a_y,3,none⟩ = some (.int .i64 a1_3) ∧ w'.cell? ⟨a_y,4,none⟩ = some (.int .u32 a1_4)) (ds:=[]) #[F_,F_,F_,F_,F_,F_,F_,F_,F_,F_,F_,F_,F_,F_,F_,F_] (by kernel_rfl) rfl rfl ⟨(a_f b_q.out 0).trans rfl,(a_f a_C.out 0).trans rfl,(a_f a_D.out 0).trans rfl,(a_f a_o.out 0).trans rfl,(a_f a_o.out 1).trans rfl,(a_f a_o.out 2).trans rfl,(a_f a_o.out 3).trans rfl,(a_f a_o.out 4).trans rfl⟩ (fun hHeld => ?_);refine d_w a_n.tab9 a_n.g_P (fun HT_ HW_ => ?_)
  generalize w72.drew = w73 at a_6 b_j b_v a_B a_o a_C a_D b_q HB hHeld ⊢
  refine b_E (i:=0) (N:=some 45) (v:=?_) (a':=?_) #[T_,F_,F_,F_,F_,F_,F_,F_,F_,F_,F_,F_,F_,F_,F_,F_] rfl rfl (b_g HT_.out (by kernel_rfl)) (fun _ _ _ h => h) (Or.inl ⟨by rfl,?_⟩) ?_ ?_
  rotate_left
  ·intro w'
   go_simp
   with_reducible rfl
  rotate_left
  ·simp only [Act.put,List.setIfInBounds_toArray,List.set_cons_zero,List.set_cons_succ,b_m,b_o]
   rfl
  refine b_E (i:=1) (N:=some 46) (v:=?_) (a':=?_) #[T_,T_,F_,F_,F_,F_,F_,F_,F_,F_,F_,F_,F_,F_,F_,F_] rfl rfl (b_g HT_.out (by kernel_rfl)) (fun _ _ _ h => h) (Or.inl ⟨by rfl,?_⟩) ?_ ?_
  rotate_left
  ·intro w'
   go_simp
   with_reducible rfl
  rotate_left
  ·simp only [Act.put,List.setIfInBounds_toArray,List.set_cons_zero,List.set_cons_succ,b_m,b_o]
   rfl
  refine b_E (i:=2) (N:=some 47) (v:=?_) (a':=?_) #[T_,T_,T_,F_,F_,F_,F_,F_,F_,F_,F_,F_,F_,F_,F_,F_] rfl rfl (b_g HT_.out (by kernel_rfl)) (fun _ _ _ h => h) (Or.inl ⟨by rfl,?_⟩) ?_ ?_
  rotate_left
  ·intro w'
   go_simp
   with_reducible rfl
  rotate_left
  ·simp only [Act.put,List.setIfInBounds_toArray,List.set_cons_zero,List.set_cons_succ,b_m,b_o]
   rfl
  refine d_C (i:=3) (N:=some 48) (v:=?_) (a':=?_) #[T_,T_,T_,T_,F_,F_,F_,F_,F_,F_,F_,F_,F_,F_,F_,F_] rfl rfl (c_v HT_.out HW_.out (by kernel_rfl)) (fun _ _ _ h => h) (Or.inl ⟨by rfl,?_⟩) hHeld ?_ ?_
  rotate_left
  ·rintro w' ⟨s0,s1,s2,s3,s4,s5,s6,s7⟩
   go_simp
   with_reducible rfl
  rotate_left
  ·simp only [Act.put,List.setIfInBounds_toArray,List.set_cons_zero,List.set_cons_succ,b_m,b_o]
   rfl
  refine d_C (i:=4) (N:=some 49) (v:=?_) (a':=?_) #[T_,T_,T_,T_,T_,F_,F_,F_,F_,F_,F_,F_,F_,F_,F_,F_] rfl rfl (c_v HT_.out HW_.out (by kernel_rfl)) (fun _ _ _ h => h) (Or.inl ⟨by rfl,?_⟩) hHeld ?_ ?_
  rotate_left
  ·rintro w' ⟨s0,s1,s2,s3,s4,s5,s6,s7⟩
   go_simp
   with_reducible rfl
  rotate_left
  ·simp only [Act.put,List.setIfInBounds_toArray,List.set_cons_zero,List.set_cons_succ,b_m,b_o]
   rfl
  refine one_ (i:=5) (N:=some 50) #[T_,T_,T_,T_,T_,T_,F_,F_,F_,F_,F_,F_,F_,F_,F_,F_] rfl rfl (e_N HT_.out (by kernel_rfl)) (by decide) (fun K hK => ?_)
  refine f_V Try.func18 (by kernel_rfl) rfl #[.agg #[.slice Ao66 t487.length co66],.agg #[.slice Ao17 t476.length co17]] (by rfl) rfl rfl (by (try simp only [List.map_toArray,List.map_cons,List.map_nil]);first|done|rfl|(simp only [List.length_drop,List.length_take];rfl)) ?_
  with_reducible refine (a_1.calls k _ _ t487 _ _ t476 true _ ?side1 ?side2 ?side3 ?side4 A34.out).mono ?_
  (case side1 => repeat (first|exact (Kd.a_t b_v.out).2.2|(with_reducible refine Kd.b_a ?_ _)|(with_reducible refine Kd.b_c ?_ _)|(with_reducible refine Kd.b_p ?_)))
  (case side2 => exact (Kd.a_t b_v.out).2.1)
  (case side3 => repeat (first|exact (Kd.a_t a_6.out).2.2|(with_reducible refine Kd.b_a ?_ _)|(with_reducible refine Kd.b_c ?_ _)|(with_reducible refine Kd.b_p ?_)))
  (case side4 => exact (Kd.a_t a_6.out).2.1)
  rintro e w74 ⟨rfl,hb⟩
  refine ⟨_,rfl,?_⟩
  replace a_6:=a_a.mk (Kd.a_w (rup_ a_6.out) hb)
  replace b_j:=a_a.mk (Kd.a_w (rup_ b_j.out) hb)
  replace b_v:=a_a.mk (Kd.a_w (rup_ b_v.out) hb)
  replace a_B:=a_a.mk (a_c (bup_ a_B.out) hb)
  replace a_o:=a_a.mk (a_c (bup_ a_o.out) hb)
  replace a_C:=a_a.mk (a_c (bup_ a_C.out) hb)
  replace a_D:=a_a.mk (a_c (bup_ a_D.out) hb)
  replace b_q:=a_a.mk (a_c (bup_ b_q.out) hb)
  replace HB:=a_a.mk (a_j (by repeat (first|(with_reducible first|exact HB.out|apply a_g|apply a_d|apply a_h|refine a_b ?_ a_M.out|refine a_b ?_ a_N.out|refine a_b ?_ a_T.out|refine a_b ?_ a_X.out|refine a_b ?_ d_g.out)|exact HB.out)) hb)
  (try clear hb)
  (try clear hb2)
  (try clear hk)
  (try clear hi)
  refine hK.out _ _ ⟨(a_f b_q.out 0).trans rfl,(a_f a_C.out 0).trans rfl,(a_f a_D.out 0).trans rfl,(a_f a_o.out 0).trans rfl,(a_f a_o.out 1).trans rfl,(a_f a_o.out 2).trans rfl,(a_f a_o.out 3).trans rfl,(a_f a_o.out 4).trans rfl⟩ (fun hHeld => ?_)
  clear hK K
  refine f_8 (a':=?_) ?_ ?_
  rotate_left
  ·show Act.put _ (some 50) _ = _
   simp only [Act.put,List.setIfInBounds_toArray,List.set_cons_zero,List.set_cons_succ,b_m,b_o]
   rfl
  refine b_E (i:=6) (N:=some 51) (v:=?_) (a':=?_) #[T_,T_,T_,T_,T_,T_,T_,F_,F_,F_,F_,F_,F_,F_,F_,F_] rfl rfl (b_g HT_.out (by kernel_rfl)) (fun _ _ _ h => h) (Or.inl ⟨by rfl,?_⟩) ?_ ?_
  rotate_left
  ·intro w'
   go_simp
   with_reducible rfl
  rotate_left
  ·simp only [Act.put,List.setIfInBounds_toArray,List.set_cons_zero,List.set_cons_succ,b_m,b_o]
   rfl
  refine b_E (i:=7) (N:=some 52) (v:=?_) (a':=?_) #[T_,T_,T_,T_,T_,T_,T_,T_,F_,F_,F_,F_,F_,F_,F_,F_] rfl rfl (b_g HT_.out (by kernel_rfl)) (fun _ _ _ h => h) (Or.inl ⟨by rfl,?_⟩) ?_ ?_
  rotate_left
  ·intro w'
   go_simp
   with_reducible rfl
  rotate_left
  ·simp only [Act.put,List.setIfInBounds_toArray,List.set_cons_zero,List.set_cons_succ,b_m,b_o]
   rfl
  refine b_E (i:=8) (N:=some 53) (v:=?_) (a':=?_) #[T_,T_,T_,T_,T_,T_,T_,T_,T_,F_,F_,F_,F_,F_,F_,F_] rfl rfl (b_g HT_.out (by kernel_rfl)) (fun _ _ _ h => h) (Or.inl ⟨by rfl,?_⟩) ?_ ?_
  rotate_left
  ·intro w'
   go_simp
   with_reducible rfl
  rotate_left
  ·simp only [Act.put,List.setIfInBounds_toArray,List.set_cons_zero,List.set_cons_succ,b_m,b_o]
   rfl
  refine b_E (i:=10) (N:=some 55) (v:=?_) (a':=?_) #[T_,T_,T_,T_,T_,T_,T_,T_,T_,F_,T_,F_,F_,F_,F_,F_] rfl rfl (b_g HT_.out (by kernel_rfl)) (fun _ _ _ h => h) (Or.inl ⟨by rfl,?_⟩) ?_ ?_
  rotate_left
  ·intro w'
   go_simp
   with_reducible rfl
  rotate_left
  ·simp only [Act.put,List.setIfInBounds_toArray,List.set_cons_zero,List.set_cons_succ,b_m,b_o]
   rfl
  refine b_E (i:=12) (N:=some 57) (v:=?_) (a':=?_) #[T_,T_,T_,T_,T_,T_,T_,T_,T_,F_,T_,F_,T_,F_,F_,F_] rfl rfl (b_g HT_.out (by kernel_rfl)) (fun _ _ _ h => h) (Or.inl ⟨by rfl,?_⟩) ?_ ?_
  rotate_left
  ·intro w'
   go_simp
   with_reducible rfl
  rotate_left
  ·simp only [Act.put,List.setIfInBounds_toArray,List.set_cons_zero,List.set_cons_succ,b_m,b_o]
   rfl
  refine d_C (i:=9) (N:=some 54) (v:=?_) (a':=?_) #[T_,T_,T_,T_,T_,T_,T_,T_,T_,T_,T_,F_,T_,F_,F_,F_] rfl rfl (c_v HT_.out HW_.out (by kernel_rfl)) (fun _ _ _ h => h) (Or.inl ⟨by rfl,?_⟩) hHeld ?_ ?_
  rotate_left
  ·rintro w' ⟨s0,s1,s2,s3,s4,s5,s6,s7⟩
   go_simp
   with_reducible rfl
  rotate_left
  ·simp only [Act.put,List.setIfInBounds_toArray,List.set_cons_zero,List.set_cons_succ,b_m,b_o]
   rfl
  refine d_C (i:=13) (N:=some 58) (v:=?_) (a':=?_) #[T_,T_,T_,T_,T_,T_,T_,T_,T_,T_,T_,F_,T_,T_,F_,F_] rfl rfl (c_v HT_.out HW_.out (by kernel_rfl)) (fun _ _ _ h => h) (Or.inl ⟨by rfl,?_⟩) hHeld ?_ ?_
  rotate_left
  ·rintro w' ⟨s0,s1,s2,s3,s4,s5,s6,s7⟩
   go_simp
   with_reducible rfl
  rotate_left
  ·simp only [Act.put,List.setIfInBounds_toArray,List.set_cons_zero,List.set_cons_succ,b_m,b_o]
   rfl
  refine one_ (i:=11) (N:=some 56) #[T_,T_,T_,T_,T_,T_,T_,T_,T_,T_,T_,T_,T_,T_,F_,F_] rfl rfl (e_N HT_.out (by kernel_rfl)) (by decide) (fun K hK => ?_)
  refine f_V Try.func23 (by kernel_rfl) rfl #[.agg #[.slice Ao26 t481.length co26],.int .i64 t484] (by rfl) rfl rfl (by (try simp only [List.map_toArray,List.map_cons,List.map_nil]);first|done|rfl|(simp only [List.length_drop,List.length_take];rfl)) ?_
  with_reducible refine (b_s.calls k _ _ t481 t484 t493 _ ?side1 ?side2 A36.out).mono ?_
  (case side1 => repeat (first|exact (Kd.a_t b_j.out).2.2|(with_reducible refine Kd.b_a ?_ _)|(with_reducible refine Kd.b_c ?_ _)|(with_reducible refine Kd.b_p ?_)))
  (case side2 => exact (Kd.a_t b_j.out).2.1)
  rintro e w75 ⟨rfl,hb⟩
  refine ⟨_,rfl,?_⟩
  replace a_6:=a_a.mk (Kd.a_w (rup_ a_6.out) hb)
  replace b_j:=a_a.mk (Kd.a_w (rup_ b_j.out) hb)
  replace b_v:=a_a.mk (Kd.a_w (rup_ b_v.out) hb)
  replace a_B:=a_a.mk (a_c (bup_ a_B.out) hb)
  replace a_o:=a_a.mk (a_c (bup_ a_o.out) hb)
  replace a_C:=a_a.mk (a_c (bup_ a_C.out) hb)
  replace a_D:=a_a.mk (a_c (bup_ a_D.out) hb)
  replace b_q:=a_a.mk (a_c (bup_ b_q.out) hb)
  replace HB:=a_a.mk (a_j (by repeat (first|(with_reducible first|exact HB.out|apply a_g|apply a_d|apply a_h|refine a_b ?_ a_M.out|refine a_b ?_ a_N.out|refine a_b ?_ a_T.out|refine a_b ?_ a_X.out|refine a_b ?_ d_g.out)|exact HB.out)) hb)
  (try clear hb)
  (try clear hb2)
  (try clear hk)
  (try clear hi)
  refine hK.out _ _ ⟨(a_f b_q.out 0).trans rfl,(a_f a_C.out 0).trans rfl,(a_f a_D.out 0).trans rfl,(a_f a_o.out 0).trans rfl,(a_f a_o.out 1).trans rfl,(a_f a_o.out 2).trans rfl,(a_f a_o.out 3).trans rfl,(a_f a_o.out 4).trans rfl⟩ (fun hHeld => ?_)
  clear hK K
  refine f_8 (a':=?_) ?_ ?_
  rotate_left
  ·show Act.put _ (some 56) _ = _
   simp only [Act.put,List.setIfInBounds_toArray,List.set_cons_zero,List.set_cons_succ,b_m,b_o]
   rfl
  refine b_E (i:=14) (N:=some 59) (v:=?_) (a':=?_) #[T_,T_,T_,T_,T_,T_,T_,T_,T_,T_,T_,T_,T_,T_,T_,F_] rfl rfl (b_g HT_.out (by kernel_rfl)) (fun _ _ _ h => h) (Or.inl ⟨by rfl,?_⟩) ?_ ?_
  rotate_left
  ·intro w'
   go_simp
   with_reducible rfl
  rotate_left
  ·simp only [Act.put,List.setIfInBounds_toArray,List.set_cons_zero,List.set_cons_succ,b_m,b_o]
   rfl
  refine b_E (i:=15) (N:=some 60) (v:=?_) (a':=?_) #[T_,T_,T_,T_,T_,T_,T_,T_,T_,T_,T_,T_,T_,T_,T_,T_] rfl rfl (b_g HT_.out (by kernel_rfl)) (fun _ _ _ h => h) (Or.inl ⟨by rfl,?_⟩) ?_ ?_
  rotate_left
  ·intro w'
   go_simp
   with_reducible rfl
  rotate_left
  ·simp only [Act.put,List.setIfInBounds_toArray,List.set_cons_zero,List.set_cons_succ,b_m,b_o]
   rfl
  refine g_Q (e_x HT_.out (by kernel_rfl)) ?_
  try go_wp2
  go_ret
  exact ⟨by first|rfl|(simp [a_J,a_H] <;> rfl)|(simp [*, a_J,a_H] <;> rfl),by repeat (first|(with_reducible first|exact HB.out|apply a_g|apply a_d|apply a_h|refine a_b ?_ a_M.out|refine a_b ?_ a_N.out|refine a_b ?_ a_T.out|refine a_b ?_ a_X.out|refine a_b ?_ d_g.out)|exact HB.out)⟩
 case rest =>
  clear HC9
  try clear c1
  try clear c2
  try clear p2
  try clear c3
  try clear c7
  try clear c8
  try clear c9
  try clear c10
  try clear c18
  try clear c23
  try clear c30
  try clear c31
  try clear c31b0
  try clear c31b1
  try clear c33
  try clear c33b0
  try clear c33b1
  try clear c35
  try clear c76
  try clear c77
  try clear c78
  try clear c80
  try clear c81
  try clear c86
  try clear c87
  try clear c88
  try clear c89
  try clear c94
  try clear c95
  try clear c96
  try clear c98
  try clear c99
  try clear c104
  try clear c105
  try clear c106
  try clear c107
  try clear g_X
  try clear g_Y
  try clear g_Z
  try clear g_0
  try clear g_1
  try clear g_7
  try clear i_l
  try clear i_n
  try clear i_o
  try clear i_p
  try clear i_q
  try clear i_r
  try clear i_x
  try clear i_i
  try clear g_2
  try clear g_3
  try clear g_4
  try clear g_5
  try clear g_6
  try clear g_8
  try clear i_m
  try clear i_s
  try clear i_t
  try clear i_u
  try clear i_v
  try clear i_w
  try clear i_y
  try clear i_j
  obtain ⟨kq,HA,HJ8,a_v,a_x,a_B,a_o,a_C,a_D,HB⟩:=hcut
  cases kq with
  | zero => exact absurd HA.out (by simp [a_n.j0])
  | succ kj8 =>
   have H:=HA.out
   clear HA
   simp only [a_n.j0] at H
   replace H:=Option.bind_eq_some_iff.mp H
   obtain ⟨⟨t494,t497,t498⟩,A1110,H⟩:=H
   replace H : (if t498 = 0 then ((b_t.f kj8 t494 a1_3).bind fun bt500 => ((a_K.f kj8 t494 a1_3 t497).bind fun bt502 => (if bt500.2 = true then (if bt500.1 = a1_2 then (if bt502.2.2 = 0 then (if bt502.2.1 = a1_2 then ((a_1.f kj8 bt502.1 t476).bind fun t508 => (some t508)) else (some false)) else (some false)) else (some false)) else (some false)))) else (some ((t494.length : Int) == 0))) = some r:=H
   have A111:=a_a.mk A1110
   clear A1110
   by_cases c112 : t498 = 0
   rotate_left
   ·rw [if_neg c112] at H
    have c112b0 : (t498 == 0) = false:=beq_eq_false_iff_ne.mpr c112
    have c112b1 : (t498 != 0) = true:=bne_iff_ne.mpr c112
    obtain rfl:=Option.some.inj H
    have o_S:=c_l.out
    have o_T:=b_V.out
    have o_U:=b_M.out
    have o_V:=b_F.out
    have o_W:=b_z.out
    have o_X:=b_X.out
    have j_f : wc.cell? ⟨b_d,0,none⟩ = some (.slice Ao17 t476.length co17):=(a_f a_C.out 0).trans rfl
    have j_g:=a_e a_C.out 0
    have o_Y:=b_K.out
    have o_Z:=b_J.out
    have o_0:=b_y.out
    have o_1:=b_W.out
    have j_h : wc.cell? ⟨a_y,0,none⟩ = some (.int .i64 a1_0):=(a_f a_o.out 0).trans rfl
    have j_i : wc.cell? ⟨a_y,1,none⟩ = some (.int .i64 a1_1):=(a_f a_o.out 1).trans rfl
    have j_j : wc.cell? ⟨a_y,2,none⟩ = some (.int .i64 a1_2):=(a_f a_o.out 2).trans rfl
    have j_k : wc.cell? ⟨a_y,3,none⟩ = some (.int .i64 a1_3):=(a_f a_o.out 3).trans rfl
    have j_l : wc.cell? ⟨a_y,4,none⟩ = some (.int .u32 a1_4):=(a_f a_o.out 4).trans rfl
    have j_m:=a_e a_o.out 0
    have j_n:=a_e a_o.out 1
    have j_o:=a_e a_o.out 2
    have j_p:=a_e a_o.out 3
    have j_q:=a_e a_o.out 4
    go_wp2_with (first|((with_reducible refine a_z (f:=31) rfl ?_);refine b_h (some 67) rfl rfl Try.func31 (by kernel_rfl) rfl #[.agg #[.slice Ao17 t476.length co17],.int .i64 a1_3,.int .i64 a1_2] rfl (by (try simp only [List.map_toArray,List.map_cons,List.map_nil]);first|done|rfl|(simp only [List.length_drop,List.length_take];rfl)) ?_;(with_reducible refine (a_K.calls kj8 _ _ t476 a1_3 a1_2 t494 t497 t498 _ ?side1 ?side2 A111.out).mono ?_);(case side1 => repeat (first|exact (Kd.a_t a_v.out).2.2|(with_reducible refine Kd.b_a ?_ _)|(with_reducible refine Kd.b_c ?_ _)|(with_reducible refine Kd.b_p ?_)));(case side2 => exact (Kd.a_t a_v.out).2.1);rintro e w273 ⟨v495,rfl,ho0,hb⟩;refine ⟨_,rfl,?_⟩;have b_b:=a_a.mk (Kd.a_5 (Kd.b_r (Kd.b_r ho0 (Kd.R_lt (rup_ a_v.out))) (Kd.R_lt (rup_ a_x.out))) (a_p (by repeat (first|(with_reducible first|exact HB.out|apply a_g|apply a_d|apply a_h|refine a_b ?_ a_M.out|refine a_b ?_ a_N.out|refine a_b ?_ a_T.out|refine a_b ?_ a_X.out)|exact HB.out))));replace a_v:=a_a.mk (Kd.a_V (rup_ a_v.out) (Kd.b_n ho0) hb);replace a_x:=a_a.mk (Kd.a_V (rup_ a_x.out) (Kd.b_n ho0) hb);replace a_B:=a_a.mk (a_c (bup_ a_B.out) hb);replace a_o:=a_a.mk (a_c (bup_ a_o.out) hb);replace a_C:=a_a.mk (a_c (bup_ a_C.out) hb);replace a_D:=a_a.mk (a_c (bup_ a_D.out) hb);replace HB:=a_a.mk (a_j (by repeat (first|(with_reducible first|exact HB.out|apply a_g|apply a_d|apply a_h|refine a_b ?_ a_M.out|refine a_b ?_ a_N.out|refine a_b ?_ a_T.out|refine a_b ?_ a_X.out)|exact HB.out)) hb);(try clear hb);(try clear hb2);(try clear hk);(try clear hi);(try clear ho0))|((with_reducible refine a_s (N:=11) rfl ?_);refine a_r ?hg (N:=11) ?hd (cs:=#[.slice none 0 0]) (t:=26) ?hr ?_;(case hd => rfl);(case hg => rfl);(case hr => first|(go_simp;done)|(go_simp;rfl));intro a_S hg w274 hbox hb;have a_3:=a_a.mk (hbox);have g_v:=a_a.mk ((by rw [hg];exact (a_p (by repeat (first|(with_reducible first|exact HB.out|apply a_g|apply a_d|apply a_h|refine a_b ?_ a_M.out|refine a_b ?_ a_N.out|refine a_b ?_ a_T.out|refine a_b ?_ a_X.out)|exact HB.out))) : w.heap.size ≤ a_S));have b_L:=a_a.mk ((by rw [hg];exact (a_p (by repeat (first|(with_reducible first|exact HB.out|apply a_g|apply a_d|apply a_h|refine a_b ?_ a_M.out|refine a_b ?_ a_N.out|refine a_b ?_ a_T.out|refine a_b ?_ a_X.out)|exact HB.out))) : w.heap.size ≤ a_S));have b_A:=a_a.mk ((by rw [hg];exact Nat.ne_of_lt (a_i (bup_ a_B.out)) : b_l ≠ a_S));have b_2:=a_a.mk ((by rw [hg];exact Nat.ne_of_gt (a_i (bup_ a_B.out)) : a_S ≠ b_l));have b_B:=a_a.mk ((by rw [hg];exact Nat.ne_of_lt (a_i (bup_ a_o.out)) : a_y ≠ a_S));have b_3:=a_a.mk ((by rw [hg];exact Nat.ne_of_gt (a_i (bup_ a_o.out)) : a_S ≠ a_y));have b_C:=a_a.mk ((by rw [hg];exact Nat.ne_of_lt (a_i (bup_ a_C.out)) : b_d ≠ a_S));have b_4:=a_a.mk ((by rw [hg];exact Nat.ne_of_gt (a_i (bup_ a_C.out)) : a_S ≠ b_d));have b_D:=a_a.mk ((by rw [hg];exact Nat.ne_of_lt (a_i (bup_ a_D.out)) : a_9 ≠ a_S));have b_5:=a_a.mk ((by rw [hg];exact Nat.ne_of_gt (a_i (bup_ a_D.out)) : a_S ≠ a_9));replace a_v:=a_a.mk (Kd.a_w (rup_ a_v.out) hb);replace a_x:=a_a.mk (Kd.a_w (rup_ a_x.out) hb);replace b_b:=a_a.mk (Kd.a_w (rup_ b_b.out) hb);replace a_B:=a_a.mk (a_c (bup_ a_B.out) hb);replace a_o:=a_a.mk (a_c (bup_ a_o.out) hb);replace a_C:=a_a.mk (a_c (bup_ a_C.out) hb);replace a_D:=a_a.mk (a_c (bup_ a_D.out) hb);replace HB:=a_a.mk (a_j (by repeat (first|(with_reducible first|exact HB.out|apply a_g|apply a_d|apply a_h|refine a_b ?_ a_M.out|refine a_b ?_ a_N.out|refine a_b ?_ a_T.out|refine a_b ?_ a_X.out)|exact HB.out)) hb);clear hb hbox hg;obtain ⟨s_8,s_9,o_r⟩:=Kd.a_4 b_b.out;subst o_r;have o_2:=b_2.out;have o_3:=b_A.out;have o_4:=b_3.out;have o_5:=b_B.out;have o_6:=b_4.out;have o_7:=b_C.out;have o_8:=b_5.out;have o_9:=b_D.out;have j_r : w274.cell? ⟨a_S,0,none⟩ = some (.slice none 0 0):=(a_f a_3.out 0).trans rfl;have j_s:=a_e a_3.out 0))
    go_ret
    exact ⟨by first|rfl|(simp [a_J,a_H] <;> rfl)|(simp [*, a_J,a_H] <;> rfl),by repeat (first|(with_reducible first|exact HB.out|apply a_g|apply a_d|apply a_h|refine a_b ?_ a_M.out|refine a_b ?_ a_N.out|refine a_b ?_ a_T.out|refine a_b ?_ a_X.out|refine a_b ?_ b_L.out)|exact HB.out)⟩
   rw [if_pos c112] at H
   have c112b0 : (t498 == 0) = true:=beq_iff_eq.mpr c112
   have c112b1 : (t498 != 0) = false:=bne_eq_false_iff_eq.mpr c112
   clear c112
   replace H:=Option.bind_eq_some_iff.mp H
   obtain ⟨⟨t500,t501⟩,A1130,H⟩:=H
   replace H : ((a_K.f kj8 t494 a1_3 t497).bind fun bt502 => (if t501 = true then (if t500 = a1_2 then (if bt502.2.2 = 0 then (if bt502.2.1 = a1_2 then ((a_1.f kj8 bt502.1 t476).bind fun t508 => (some t508)) else (some false)) else (some false)) else (some false)) else (some false))) = some r:=H
   have A113:=a_a.mk A1130
   clear A1130
   replace H:=Option.bind_eq_some_iff.mp H
   obtain ⟨⟨t502,t505,t506⟩,A1140,H⟩:=H
   replace H : (if t501 = true then (if t500 = a1_2 then (if t506 = 0 then (if t505 = a1_2 then ((a_1.f kj8 t502 t476).bind fun t508 => (some t508)) else (some false)) else (some false)) else (some false)) else (some false)) = some r:=H
   have A114:=a_a.mk A1140
   clear A1140
   by_cases c115 : t501 = true
   rotate_left
   ·replace c115:=Bool.eq_false_iff.mpr c115
    subst c115
    have H1 : (some false) = some r:=by rw [if_neg (show ¬ (false = true) by decide)] at H;exact H
    clear H
    have H:=H1
    clear H1
    obtain rfl:=Option.some.inj H
    have p_a:=c_l.out
    have p_b:=b_V.out
    have p_c:=b_M.out
    have p_d:=b_F.out
    have p_e:=b_z.out
    have p_f:=b_X.out
    have j_t : wc.cell? ⟨b_d,0,none⟩ = some (.slice Ao17 t476.length co17):=(a_f a_C.out 0).trans rfl
    have j_u:=a_e a_C.out 0
    have p_g:=b_K.out
    have p_h:=b_J.out
    have p_i:=b_y.out
    have p_j:=b_W.out
    have j_v : wc.cell? ⟨a_y,0,none⟩ = some (.int .i64 a1_0):=(a_f a_o.out 0).trans rfl
    have j_w : wc.cell? ⟨a_y,1,none⟩ = some (.int .i64 a1_1):=(a_f a_o.out 1).trans rfl
    have j_x : wc.cell? ⟨a_y,2,none⟩ = some (.int .i64 a1_2):=(a_f a_o.out 2).trans rfl
    have j_y : wc.cell? ⟨a_y,3,none⟩ = some (.int .i64 a1_3):=(a_f a_o.out 3).trans rfl
    have j_z : wc.cell? ⟨a_y,4,none⟩ = some (.int .u32 a1_4):=(a_f a_o.out 4).trans rfl
    have j_A:=a_e a_o.out 0
    have j_B:=a_e a_o.out 1
    have j_C:=a_e a_o.out 2
    have j_D:=a_e a_o.out 3
    have j_E:=a_e a_o.out 4
    go_wp2_with (first|((with_reducible refine a_z (f:=31) rfl ?_);refine b_h (some 67) rfl rfl Try.func31 (by kernel_rfl) rfl #[.agg #[.slice Ao17 t476.length co17],.int .i64 a1_3,.int .i64 a1_2] rfl (by (try simp only [List.map_toArray,List.map_cons,List.map_nil]);first|done|rfl|(simp only [List.length_drop,List.length_take];rfl)) ?_;(with_reducible refine (a_K.calls kj8 _ _ t476 a1_3 a1_2 t494 t497 t498 _ ?side1 ?side2 A111.out).mono ?_);(case side1 => repeat (first|exact (Kd.a_t a_v.out).2.2|(with_reducible refine Kd.b_a ?_ _)|(with_reducible refine Kd.b_c ?_ _)|(with_reducible refine Kd.b_p ?_)));(case side2 => exact (Kd.a_t a_v.out).2.1);rintro e w245 ⟨v495,rfl,ho0,hb⟩;refine ⟨_,rfl,?_⟩;have b_b:=a_a.mk (Kd.a_5 (Kd.b_r (Kd.b_r ho0 (Kd.R_lt (rup_ a_v.out))) (Kd.R_lt (rup_ a_x.out))) (a_p (by repeat (first|(with_reducible first|exact HB.out|apply a_g|apply a_d|apply a_h|refine a_b ?_ a_M.out|refine a_b ?_ a_N.out|refine a_b ?_ a_T.out|refine a_b ?_ a_X.out)|exact HB.out))));replace a_v:=a_a.mk (Kd.a_V (rup_ a_v.out) (Kd.b_n ho0) hb);replace a_x:=a_a.mk (Kd.a_V (rup_ a_x.out) (Kd.b_n ho0) hb);replace a_B:=a_a.mk (a_c (bup_ a_B.out) hb);replace a_o:=a_a.mk (a_c (bup_ a_o.out) hb);replace a_C:=a_a.mk (a_c (bup_ a_C.out) hb);replace a_D:=a_a.mk (a_c (bup_ a_D.out) hb);replace HB:=a_a.mk (a_j (by repeat (first|(with_reducible first|exact HB.out|apply a_g|apply a_d|apply a_h|refine a_b ?_ a_M.out|refine a_b ?_ a_N.out|refine a_b ?_ a_T.out|refine a_b ?_ a_X.out)|exact HB.out)) hb);(try clear hb);(try clear hb2);(try clear hk);(try clear hi);(try clear ho0))|((with_reducible refine a_s (N:=11) rfl ?_);refine a_r ?hg (N:=11) ?hd (cs:=#[.slice none 0 0]) (t:=26) ?hr ?_;(case hd => rfl);(case hg => rfl);(case hr => first|(go_simp;done)|(go_simp;rfl));intro a_S hg w246 hbox hb;have a_3:=a_a.mk (hbox);have g_v:=a_a.mk ((by rw [hg];exact (a_p (by repeat (first|(with_reducible first|exact HB.out|apply a_g|apply a_d|apply a_h|refine a_b ?_ a_M.out|refine a_b ?_ a_N.out|refine a_b ?_ a_T.out|refine a_b ?_ a_X.out)|exact HB.out))) : w.heap.size ≤ a_S));have b_L:=a_a.mk ((by rw [hg];exact (a_p (by repeat (first|(with_reducible first|exact HB.out|apply a_g|apply a_d|apply a_h|refine a_b ?_ a_M.out|refine a_b ?_ a_N.out|refine a_b ?_ a_T.out|refine a_b ?_ a_X.out)|exact HB.out))) : w.heap.size ≤ a_S));have b_A:=a_a.mk ((by rw [hg];exact Nat.ne_of_lt (a_i (bup_ a_B.out)) : b_l ≠ a_S));have b_2:=a_a.mk ((by rw [hg];exact Nat.ne_of_gt (a_i (bup_ a_B.out)) : a_S ≠ b_l));have b_B:=a_a.mk ((by rw [hg];exact Nat.ne_of_lt (a_i (bup_ a_o.out)) : a_y ≠ a_S));have b_3:=a_a.mk ((by rw [hg];exact Nat.ne_of_gt (a_i (bup_ a_o.out)) : a_S ≠ a_y));have b_C:=a_a.mk ((by rw [hg];exact Nat.ne_of_lt (a_i (bup_ a_C.out)) : b_d ≠ a_S));have b_4:=a_a.mk ((by rw [hg];exact Nat.ne_of_gt (a_i (bup_ a_C.out)) : a_S ≠ b_d));have b_D:=a_a.mk ((by rw [hg];exact Nat.ne_of_lt (a_i (bup_ a_D.out)) : a_9 ≠ a_S));have b_5:=a_a.mk ((by rw [hg];exact Nat.ne_of_gt (a_i (bup_ a_D.out)) : a_S ≠ a_9));replace a_v:=a_a.mk (Kd.a_w (rup_ a_v.out) hb);replace a_x:=a_a.mk (Kd.a_w (rup_ a_x.out) hb);replace b_b:=a_a.mk (Kd.a_w (rup_ b_b.out) hb);replace a_B:=a_a.mk (a_c (bup_ a_B.out) hb);replace a_o:=a_a.mk (a_c (bup_ a_o.out) hb);replace a_C:=a_a.mk (a_c (bup_ a_C.out) hb);replace a_D:=a_a.mk (a_c (bup_ a_D.out) hb);replace HB:=a_a.mk (a_j (by repeat (first|(with_reducible first|exact HB.out|apply a_g|apply a_d|apply a_h|refine a_b ?_ a_M.out|refine a_b ?_ a_N.out|refine a_b ?_ a_T.out|refine a_b ?_ a_X.out)|exact HB.out)) hb);clear hb hbox hg;obtain ⟨e_1,e_E,o_s⟩:=Kd.a_4 b_b.out;subst o_s;have p_k:=b_2.out;have p_l:=b_A.out;have p_m:=b_3.out;have p_n:=b_B.out;have p_o:=b_4.out;have p_p:=b_C.out;have p_q:=b_5.out;have p_r:=b_D.out;have j_F : w246.cell? ⟨a_S,0,none⟩ = some (.slice none 0 0):=(a_f a_3.out 0).trans rfl;have j_G:=a_e a_3.out 0;have j_H : w246.cell? ⟨a_y,0,none⟩ = some (.int .i64 a1_0):=(a_f a_o.out 0).trans rfl;have j_I : w246.cell? ⟨a_y,1,none⟩ = some (.int .i64 a1_1):=(a_f a_o.out 1).trans rfl;have j_J : w246.cell? ⟨a_y,2,none⟩ = some (.int .i64 a1_2):=(a_f a_o.out 2).trans rfl;have j_K : w246.cell? ⟨a_y,3,none⟩ = some (.int .i64 a1_3):=(a_f a_o.out 3).trans rfl;have j_L : w246.cell? ⟨a_y,4,none⟩ = some (.int .u32 a1_4):=(a_f a_o.out 4).trans rfl;have j_M:=a_e a_o.out 0;have j_N:=a_e a_o.out 1;have j_O:=a_e a_o.out 2;have j_P:=a_e a_o.out 3;have j_Q:=a_e a_o.out 4)|((with_reducible refine a_z (f:=20) rfl ?_);refine b_h (some 81) rfl rfl Try.func20 (by kernel_rfl) rfl #[.agg #[.slice e_1 t494.length e_E],.int .i64 a1_3] rfl (by (try simp only [List.map_toArray,List.map_cons,List.map_nil]);first|done|rfl|(simp only [List.length_drop,List.length_take];rfl)) ?_;(with_reducible refine (b_t.calls kj8 _ _ t494 a1_3 t500 false _ ?side1 ?side2 A113.out).mono ?_);(case side1 => refine (Kd.a_t (e:=31) (base:=w.heap.size) (ok:=fun k_ => ((True ∧ some k_ ≠ (.slice Ao17 t476.length co17 : Value).ownBlock) ∧ some k_ ≠ (.slice Ao26 t481.length co26 : Value).ownBlock)) (n:=t494.length) (c:=e_E) ?_).2.2;exact (by (with_reducible repeat (first|apply Kd.a_F|apply Kd.a_E|apply Kd.a_G));exact (Kd.a_L (Kd.a_7 (p:=⟨a_S,0,none⟩) (Kd.a_I b_b.out a_3.out (by decide)) (fun _ hk => hk.2) (.slice e_1 t494.length e_E)) (fun _ h_ => h_.1))));(case side2 => exact (Kd.a_t b_b.out).2.1);rintro e w254 ⟨rfl,hb⟩;refine ⟨_,rfl,?_⟩;replace a_v:=a_a.mk (Kd.a_w (by (with_reducible repeat (first|apply Kd.a_F|apply Kd.a_E|apply Kd.a_G));exact (Kd.a_L (Kd.a_7 (p:=⟨a_S,0,none⟩) (Kd.a_I a_v.out a_3.out (by decide)) (fun _ hk => hk.2) (.slice e_1 t494.length e_E)) (fun _ h_ => h_.1))) hb);replace a_x:=a_a.mk (Kd.a_w (by (with_reducible repeat (first|apply Kd.a_F|apply Kd.a_E|apply Kd.a_G));exact (Kd.a_L (Kd.a_7 (p:=⟨a_S,0,none⟩) (Kd.a_I a_x.out a_3.out (by decide)) (fun _ hk => hk.2) (.slice e_1 t494.length e_E)) (fun _ h_ => h_.1))) hb);replace b_b:=a_a.mk (Kd.a_w (by (with_reducible repeat (first|apply Kd.a_F|apply Kd.a_E|apply Kd.a_G));exact (Kd.a_L (Kd.a_7 (p:=⟨a_S,0,none⟩) (Kd.a_I b_b.out a_3.out (by decide)) (fun _ hk => hk.2) (.slice e_1 t494.length e_E)) (fun _ h_ => h_.1))) hb);replace a_B:=a_a.mk (a_c (g:=b_l) (o:=.cells #[.slice A0_0 l0_0.length c0_0] 26 (0,0)) (by (with_reducible repeat (first|refine a_l ?_ _|refine a_k ?_|refine a_m ?_ _));refine a_u ?_ b_A.out _;(with_reducible repeat (first|refine a_l ?_ _|refine a_k ?_|refine a_m ?_ _));exact a_B.out) hb);replace a_o:=a_a.mk (a_c (g:=a_y) (o:=.cells #[.int .i64 a1_0,.int .i64 a1_1,.int .i64 a1_2,.int .i64 a1_3,.int .u32 a1_4] 36 (0,0)) (by (with_reducible repeat (first|refine a_l ?_ _|refine a_k ?_|refine a_m ?_ _));refine a_u ?_ b_B.out _;(with_reducible repeat (first|refine a_l ?_ _|refine a_k ?_|refine a_m ?_ _));exact a_o.out) hb);replace a_C:=a_a.mk (a_c (g:=b_d) (o:=.cells #[.slice Ao17 t476.length co17] 26 (0,0)) (by (with_reducible repeat (first|refine a_l ?_ _|refine a_k ?_|refine a_m ?_ _));refine a_u ?_ b_C.out _;(with_reducible repeat (first|refine a_l ?_ _|refine a_k ?_|refine a_m ?_ _));exact a_C.out) hb);replace a_D:=a_a.mk (a_c (g:=a_9) (o:=.cells #[.slice Ao26 t481.length co26] 26 (0,0)) (by (with_reducible repeat (first|refine a_l ?_ _|refine a_k ?_|refine a_m ?_ _));refine a_u ?_ b_D.out _;(with_reducible repeat (first|refine a_l ?_ _|refine a_k ?_|refine a_m ?_ _));exact a_D.out) hb);replace a_3:=a_a.mk (a_c (g:=a_S) (o:=.cells #[.slice e_1 t494.length e_E] 26 (0,0)) (by (with_reducible repeat (first|refine a_l ?_ _|refine a_k ?_|refine a_m ?_ _));refine a_R (cs:=#[.slice none 0 0]) ?_ 0 _ rfl;(with_reducible repeat (first|refine a_l ?_ _|refine a_k ?_|refine a_m ?_ _));exact a_3.out) hb);replace HB:=a_a.mk (a_j (by repeat (first|(with_reducible first|exact HB.out|apply a_g|apply a_d|apply a_h|refine a_b ?_ a_M.out|refine a_b ?_ a_N.out|refine a_b ?_ a_T.out|refine a_b ?_ a_X.out|refine a_b ?_ b_L.out)|exact HB.out)) hb);(try clear hb);(try clear hb2);(try clear hk);(try clear hi);have j_R : w254.cell? ⟨a_S,0,none⟩ = some (.slice e_1 t494.length e_E):=(a_f a_3.out 0).trans rfl;have j_S:=a_e a_3.out 0;have j_T : w254.cell? ⟨a_y,0,none⟩ = some (.int .i64 a1_0):=(a_f a_o.out 0).trans rfl;have j_U : w254.cell? ⟨a_y,1,none⟩ = some (.int .i64 a1_1):=(a_f a_o.out 1).trans rfl;have j_V : w254.cell? ⟨a_y,2,none⟩ = some (.int .i64 a1_2):=(a_f a_o.out 2).trans rfl;have j_W : w254.cell? ⟨a_y,3,none⟩ = some (.int .i64 a1_3):=(a_f a_o.out 3).trans rfl;have j_X : w254.cell? ⟨a_y,4,none⟩ = some (.int .u32 a1_4):=(a_f a_o.out 4).trans rfl;have j_Y:=a_e a_o.out 0;have j_Z:=a_e a_o.out 1;have j_0:=a_e a_o.out 2;have j_1:=a_e a_o.out 3;have j_2:=a_e a_o.out 4)|((with_reducible refine a_z (f:=31) rfl ?_);refine b_h (some 89) rfl rfl Try.func31 (by kernel_rfl) rfl #[.agg #[.slice e_1 t494.length e_E],.int .i64 a1_3,.int .i64 t497] rfl (by (try simp only [List.map_toArray,List.map_cons,List.map_nil]);first|done|rfl|(simp only [List.length_drop,List.length_take];rfl)) ?_;(with_reducible refine (a_K.calls kj8 _ _ t494 a1_3 t497 t502 t505 t506 _ ?side1 ?side2 A114.out).mono ?_);(case side1 => repeat (first|exact (Kd.a_t b_b.out).2.2|(with_reducible refine Kd.b_a ?_ _)|(with_reducible refine Kd.b_c ?_ _)|(with_reducible refine Kd.b_p ?_)));(case side2 => exact (Kd.a_t b_b.out).2.1);rintro e w257 ⟨v503,rfl,ho0,hb⟩;refine ⟨_,rfl,?_⟩;have c_I:=a_a.mk (Kd.a_5 (Kd.b_r (Kd.b_r (Kd.b_r ho0 (Kd.R_lt (rup_ a_v.out))) (Kd.R_lt (rup_ a_x.out))) (Kd.R_lt (rup_ b_b.out))) (a_p (by repeat (first|(with_reducible first|exact HB.out|apply a_g|apply a_d|apply a_h|refine a_b ?_ a_M.out|refine a_b ?_ a_N.out|refine a_b ?_ a_T.out|refine a_b ?_ a_X.out|refine a_b ?_ b_L.out)|exact HB.out))));replace a_v:=a_a.mk (Kd.a_V (rup_ a_v.out) (Kd.b_n ho0) hb);replace a_x:=a_a.mk (Kd.a_V (rup_ a_x.out) (Kd.b_n ho0) hb);replace b_b:=a_a.mk (Kd.a_V (rup_ b_b.out) (Kd.b_n ho0) hb);replace a_B:=a_a.mk (a_c (bup_ a_B.out) hb);replace a_o:=a_a.mk (a_c (bup_ a_o.out) hb);replace a_C:=a_a.mk (a_c (bup_ a_C.out) hb);replace a_D:=a_a.mk (a_c (bup_ a_D.out) hb);replace a_3:=a_a.mk (a_c (bup_ a_3.out) hb);replace HB:=a_a.mk (a_j (by repeat (first|(with_reducible first|exact HB.out|apply a_g|apply a_d|apply a_h|refine a_b ?_ a_M.out|refine a_b ?_ a_N.out|refine a_b ?_ a_T.out|refine a_b ?_ a_X.out|refine a_b ?_ b_L.out)|exact HB.out)) hb);(try clear hb);(try clear hb2);(try clear hk);(try clear hi);(try clear ho0))|((with_reducible refine a_s (N:=15) rfl ?_);refine a_r ?hg (N:=15) ?hd (cs:=#[.slice none 0 0]) (t:=26) ?hr ?_;(case hd => rfl);(case hg => rfl);(case hr => first|(go_simp;done)|(go_simp;rfl));intro b_f hg w258 hbox hb;have c_K:=a_a.mk (hbox);have g_9:=a_a.mk ((by rw [hg];exact (a_p (by repeat (first|(with_reducible first|exact HB.out|apply a_g|apply a_d|apply a_h|refine a_b ?_ a_M.out|refine a_b ?_ a_N.out|refine a_b ?_ a_T.out|refine a_b ?_ a_X.out|refine a_b ?_ b_L.out)|exact HB.out))) : w.heap.size ≤ b_f));have e_l:=a_a.mk ((by rw [hg];exact (a_p (by repeat (first|(with_reducible first|exact HB.out|apply a_g|apply a_d|apply a_h|refine a_b ?_ a_M.out|refine a_b ?_ a_N.out|refine a_b ?_ a_T.out|refine a_b ?_ a_X.out|refine a_b ?_ b_L.out)|exact HB.out))) : w.heap.size ≤ b_f));have c_b:=a_a.mk ((by rw [hg];exact Nat.ne_of_lt (a_i (bup_ a_B.out)) : b_l ≠ b_f));have c_m:=a_a.mk ((by rw [hg];exact Nat.ne_of_gt (a_i (bup_ a_B.out)) : b_f ≠ b_l));have c_c:=a_a.mk ((by rw [hg];exact Nat.ne_of_lt (a_i (bup_ a_o.out)) : a_y ≠ b_f));have c_n:=a_a.mk ((by rw [hg];exact Nat.ne_of_gt (a_i (bup_ a_o.out)) : b_f ≠ a_y));have c_d:=a_a.mk ((by rw [hg];exact Nat.ne_of_lt (a_i (bup_ a_C.out)) : b_d ≠ b_f));have c_o:=a_a.mk ((by rw [hg];exact Nat.ne_of_gt (a_i (bup_ a_C.out)) : b_f ≠ b_d));have c_e:=a_a.mk ((by rw [hg];exact Nat.ne_of_lt (a_i (bup_ a_D.out)) : a_9 ≠ b_f));have c_p:=a_a.mk ((by rw [hg];exact Nat.ne_of_gt (a_i (bup_ a_D.out)) : b_f ≠ a_9));have c_f:=a_a.mk ((by rw [hg];exact Nat.ne_of_lt (a_i (bup_ a_3.out)) : a_S ≠ b_f));have c_q:=a_a.mk ((by rw [hg];exact Nat.ne_of_gt (a_i (bup_ a_3.out)) : b_f ≠ a_S));replace a_v:=a_a.mk (Kd.a_w (rup_ a_v.out) hb);replace a_x:=a_a.mk (Kd.a_w (rup_ a_x.out) hb);replace b_b:=a_a.mk (Kd.a_w (rup_ b_b.out) hb);replace c_I:=a_a.mk (Kd.a_w (rup_ c_I.out) hb);replace a_B:=a_a.mk (a_c (bup_ a_B.out) hb);replace a_o:=a_a.mk (a_c (bup_ a_o.out) hb);replace a_C:=a_a.mk (a_c (bup_ a_C.out) hb);replace a_D:=a_a.mk (a_c (bup_ a_D.out) hb);replace a_3:=a_a.mk (a_c (bup_ a_3.out) hb);replace HB:=a_a.mk (a_j (by repeat (first|(with_reducible first|exact HB.out|apply a_g|apply a_d|apply a_h|refine a_b ?_ a_M.out|refine a_b ?_ a_N.out|refine a_b ?_ a_T.out|refine a_b ?_ a_X.out|refine a_b ?_ b_L.out)|exact HB.out)) hb);clear hb hbox hg;obtain ⟨t_a,t_b,o_t⟩:=Kd.a_4 c_I.out;subst o_t;have p_s:=c_m.out;have p_t:=c_b.out;have p_u:=c_n.out;have p_v:=c_c.out;have p_w:=c_o.out;have p_x:=c_d.out;have p_y:=c_p.out;have p_z:=c_e.out;have p_A:=c_q.out;have p_B:=c_f.out;have j_3 : w258.cell? ⟨b_f,0,none⟩ = some (.slice none 0 0):=(a_f c_K.out 0).trans rfl;have j_4:=a_e c_K.out 0))
    go_ret
    exact ⟨by first|rfl|(simp [a_J,a_H] <;> rfl)|(simp [*, a_J,a_H] <;> rfl),by repeat (first|(with_reducible first|exact HB.out|apply a_g|apply a_d|apply a_h|refine a_b ?_ a_M.out|refine a_b ?_ a_N.out|refine a_b ?_ a_T.out|refine a_b ?_ a_X.out|refine a_b ?_ b_L.out|refine a_b ?_ e_l.out)|exact HB.out)⟩
   subst c115
   have H1 : (if t500 = a1_2 then (if t506 = 0 then (if t505 = a1_2 then ((a_1.f kj8 t502 t476).bind fun t508 => (some t508)) else (some false)) else (some false)) else (some false)) = some r:=by rw [if_pos rfl] at H;exact H
   clear H
   have H:=H1
   clear H1
   by_cases c116 : t500 = a1_2
   rotate_left
   ·rw [if_neg c116] at H
    have c116b0 : (t500 == a1_2) = false:=beq_eq_false_iff_ne.mpr c116
    have c116b1 : (t500 != a1_2) = true:=bne_iff_ne.mpr c116
    obtain rfl:=Option.some.inj H
    have p_C:=c_l.out
    have p_D:=b_V.out
    have p_E:=b_M.out
    have p_F:=b_F.out
    have p_G:=b_z.out
    have p_H:=b_X.out
    have j_5 : wc.cell? ⟨b_d,0,none⟩ = some (.slice Ao17 t476.length co17):=(a_f a_C.out 0).trans rfl
    have j_6:=a_e a_C.out 0
    have p_I:=b_K.out
    have p_J:=b_J.out
    have p_K:=b_y.out
    have p_L:=b_W.out
    have j_7 : wc.cell? ⟨a_y,0,none⟩ = some (.int .i64 a1_0):=(a_f a_o.out 0).trans rfl
    have j_8 : wc.cell? ⟨a_y,1,none⟩ = some (.int .i64 a1_1):=(a_f a_o.out 1).trans rfl
    have j_9 : wc.cell? ⟨a_y,2,none⟩ = some (.int .i64 a1_2):=(a_f a_o.out 2).trans rfl
    have k_a : wc.cell? ⟨a_y,3,none⟩ = some (.int .i64 a1_3):=(a_f a_o.out 3).trans rfl
    have k_b : wc.cell? ⟨a_y,4,none⟩ = some (.int .u32 a1_4):=(a_f a_o.out 4).trans rfl
    have k_d:=a_e a_o.out 0
    have k_e:=a_e a_o.out 1
    have k_f:=a_e a_o.out 2
    have k_g:=a_e a_o.out 3
    have k_h:=a_e a_o.out 4
    go_wp2_with (first|((with_reducible refine a_z (f:=31) rfl ?_);refine b_h (some 67) rfl rfl Try.func31 (by kernel_rfl) rfl #[.agg #[.slice Ao17 t476.length co17],.int .i64 a1_3,.int .i64 a1_2] rfl (by (try simp only [List.map_toArray,List.map_cons,List.map_nil]);first|done|rfl|(simp only [List.length_drop,List.length_take];rfl)) ?_;(with_reducible refine (a_K.calls kj8 _ _ t476 a1_3 a1_2 t494 t497 t498 _ ?side1 ?side2 A111.out).mono ?_);(case side1 => repeat (first|exact (Kd.a_t a_v.out).2.2|(with_reducible refine Kd.b_a ?_ _)|(with_reducible refine Kd.b_c ?_ _)|(with_reducible refine Kd.b_p ?_)));(case side2 => exact (Kd.a_t a_v.out).2.1);rintro e w216 ⟨v495,rfl,ho0,hb⟩;refine ⟨_,rfl,?_⟩;have b_b:=a_a.mk (Kd.a_5 (Kd.b_r (Kd.b_r ho0 (Kd.R_lt (rup_ a_v.out))) (Kd.R_lt (rup_ a_x.out))) (a_p (by repeat (first|(with_reducible first|exact HB.out|apply a_g|apply a_d|apply a_h|refine a_b ?_ a_M.out|refine a_b ?_ a_N.out|refine a_b ?_ a_T.out|refine a_b ?_ a_X.out)|exact HB.out))));replace a_v:=a_a.mk (Kd.a_V (rup_ a_v.out) (Kd.b_n ho0) hb);replace a_x:=a_a.mk (Kd.a_V (rup_ a_x.out) (Kd.b_n ho0) hb);replace a_B:=a_a.mk (a_c (bup_ a_B.out) hb);replace a_o:=a_a.mk (a_c (bup_ a_o.out) hb);replace a_C:=a_a.mk (a_c (bup_ a_C.out) hb);replace a_D:=a_a.mk (a_c (bup_ a_D.out) hb);replace HB:=a_a.mk (a_j (by repeat (first|(with_reducible first|exact HB.out|apply a_g|apply a_d|apply a_h|refine a_b ?_ a_M.out|refine a_b ?_ a_N.out|refine a_b ?_ a_T.out|refine a_b ?_ a_X.out)|exact HB.out)) hb);(try clear hb);(try clear hb2);(try clear hk);(try clear hi);(try clear ho0))|((with_reducible refine a_s (N:=11) rfl ?_);refine a_r ?hg (N:=11) ?hd (cs:=#[.slice none 0 0]) (t:=26) ?hr ?_;(case hd => rfl);(case hg => rfl);(case hr => first|(go_simp;done)|(go_simp;rfl));intro a_S hg w217 hbox hb;have a_3:=a_a.mk (hbox);have g_v:=a_a.mk ((by rw [hg];exact (a_p (by repeat (first|(with_reducible first|exact HB.out|apply a_g|apply a_d|apply a_h|refine a_b ?_ a_M.out|refine a_b ?_ a_N.out|refine a_b ?_ a_T.out|refine a_b ?_ a_X.out)|exact HB.out))) : w.heap.size ≤ a_S));have b_L:=a_a.mk ((by rw [hg];exact (a_p (by repeat (first|(with_reducible first|exact HB.out|apply a_g|apply a_d|apply a_h|refine a_b ?_ a_M.out|refine a_b ?_ a_N.out|refine a_b ?_ a_T.out|refine a_b ?_ a_X.out)|exact HB.out))) : w.heap.size ≤ a_S));have b_A:=a_a.mk ((by rw [hg];exact Nat.ne_of_lt (a_i (bup_ a_B.out)) : b_l ≠ a_S));have b_2:=a_a.mk ((by rw [hg];exact Nat.ne_of_gt (a_i (bup_ a_B.out)) : a_S ≠ b_l));have b_B:=a_a.mk ((by rw [hg];exact Nat.ne_of_lt (a_i (bup_ a_o.out)) : a_y ≠ a_S));have b_3:=a_a.mk ((by rw [hg];exact Nat.ne_of_gt (a_i (bup_ a_o.out)) : a_S ≠ a_y));have b_C:=a_a.mk ((by rw [hg];exact Nat.ne_of_lt (a_i (bup_ a_C.out)) : b_d ≠ a_S));have b_4:=a_a.mk ((by rw [hg];exact Nat.ne_of_gt (a_i (bup_ a_C.out)) : a_S ≠ b_d));have b_D:=a_a.mk ((by rw [hg];exact Nat.ne_of_lt (a_i (bup_ a_D.out)) : a_9 ≠ a_S));have b_5:=a_a.mk ((by rw [hg];exact Nat.ne_of_gt (a_i (bup_ a_D.out)) : a_S ≠ a_9));replace a_v:=a_a.mk (Kd.a_w (rup_ a_v.out) hb);replace a_x:=a_a.mk (Kd.a_w (rup_ a_x.out) hb);replace b_b:=a_a.mk (Kd.a_w (rup_ b_b.out) hb);replace a_B:=a_a.mk (a_c (bup_ a_B.out) hb);replace a_o:=a_a.mk (a_c (bup_ a_o.out) hb);replace a_C:=a_a.mk (a_c (bup_ a_C.out) hb);replace a_D:=a_a.mk (a_c (bup_ a_D.out) hb);replace HB:=a_a.mk (a_j (by repeat (first|(with_reducible first|exact HB.out|apply a_g|apply a_d|apply a_h|refine a_b ?_ a_M.out|refine a_b ?_ a_N.out|refine a_b ?_ a_T.out|refine a_b ?_ a_X.out)|exact HB.out)) hb);clear hb hbox hg;obtain ⟨e_2,e_F,o_u⟩:=Kd.a_4 b_b.out;subst o_u;have p_M:=b_2.out;have p_N:=b_A.out;have p_O:=b_3.out;have p_P:=b_B.out;have p_Q:=b_4.out;have p_R:=b_C.out;have p_S:=b_5.out;have p_T:=b_D.out;have k_i : w217.cell? ⟨a_S,0,none⟩ = some (.slice none 0 0):=(a_f a_3.out 0).trans rfl;have k_j:=a_e a_3.out 0;have k_k : w217.cell? ⟨a_y,0,none⟩ = some (.int .i64 a1_0):=(a_f a_o.out 0).trans rfl;have k_l : w217.cell? ⟨a_y,1,none⟩ = some (.int .i64 a1_1):=(a_f a_o.out 1).trans rfl;have k_m : w217.cell? ⟨a_y,2,none⟩ = some (.int .i64 a1_2):=(a_f a_o.out 2).trans rfl;have k_n : w217.cell? ⟨a_y,3,none⟩ = some (.int .i64 a1_3):=(a_f a_o.out 3).trans rfl;have k_o : w217.cell? ⟨a_y,4,none⟩ = some (.int .u32 a1_4):=(a_f a_o.out 4).trans rfl;have k_p:=a_e a_o.out 0;have k_q:=a_e a_o.out 1;have k_r:=a_e a_o.out 2;have k_s:=a_e a_o.out 3;have k_t:=a_e a_o.out 4)|((with_reducible refine a_z (f:=20) rfl ?_);refine b_h (some 81) rfl rfl Try.func20 (by kernel_rfl) rfl #[.agg #[.slice e_2 t494.length e_F],.int .i64 a1_3] rfl (by (try simp only [List.map_toArray,List.map_cons,List.map_nil]);first|done|rfl|(simp only [List.length_drop,List.length_take];rfl)) ?_;(with_reducible refine (b_t.calls kj8 _ _ t494 a1_3 t500 true _ ?side1 ?side2 A113.out).mono ?_);(case side1 => refine (Kd.a_t (e:=31) (base:=w.heap.size) (ok:=fun k_ => ((True ∧ some k_ ≠ (.slice Ao17 t476.length co17 : Value).ownBlock) ∧ some k_ ≠ (.slice Ao26 t481.length co26 : Value).ownBlock)) (n:=t494.length) (c:=e_F) ?_).2.2;exact (by (with_reducible repeat (first|apply Kd.a_F|apply Kd.a_E|apply Kd.a_G));exact (Kd.a_L (Kd.a_7 (p:=⟨a_S,0,none⟩) (Kd.a_I b_b.out a_3.out (by decide)) (fun _ hk => hk.2) (.slice e_2 t494.length e_F)) (fun _ h_ => h_.1))));(case side2 => exact (Kd.a_t b_b.out).2.1);rintro e w225 ⟨rfl,hb⟩;refine ⟨_,rfl,?_⟩;replace a_v:=a_a.mk (Kd.a_w (by (with_reducible repeat (first|apply Kd.a_F|apply Kd.a_E|apply Kd.a_G));exact (Kd.a_L (Kd.a_7 (p:=⟨a_S,0,none⟩) (Kd.a_I a_v.out a_3.out (by decide)) (fun _ hk => hk.2) (.slice e_2 t494.length e_F)) (fun _ h_ => h_.1))) hb);replace a_x:=a_a.mk (Kd.a_w (by (with_reducible repeat (first|apply Kd.a_F|apply Kd.a_E|apply Kd.a_G));exact (Kd.a_L (Kd.a_7 (p:=⟨a_S,0,none⟩) (Kd.a_I a_x.out a_3.out (by decide)) (fun _ hk => hk.2) (.slice e_2 t494.length e_F)) (fun _ h_ => h_.1))) hb);replace b_b:=a_a.mk (Kd.a_w (by (with_reducible repeat (first|apply Kd.a_F|apply Kd.a_E|apply Kd.a_G));exact (Kd.a_L (Kd.a_7 (p:=⟨a_S,0,none⟩) (Kd.a_I b_b.out a_3.out (by decide)) (fun _ hk => hk.2) (.slice e_2 t494.length e_F)) (fun _ h_ => h_.1))) hb);replace a_B:=a_a.mk (a_c (g:=b_l) (o:=.cells #[.slice A0_0 l0_0.length c0_0] 26 (0,0)) (by (with_reducible repeat (first|refine a_l ?_ _|refine a_k ?_|refine a_m ?_ _));refine a_u ?_ b_A.out _;(with_reducible repeat (first|refine a_l ?_ _|refine a_k ?_|refine a_m ?_ _));exact a_B.out) hb);replace a_o:=a_a.mk (a_c (g:=a_y) (o:=.cells #[.int .i64 a1_0,.int .i64 a1_1,.int .i64 a1_2,.int .i64 a1_3,.int .u32 a1_4] 36 (0,0)) (by (with_reducible repeat (first|refine a_l ?_ _|refine a_k ?_|refine a_m ?_ _));refine a_u ?_ b_B.out _;(with_reducible repeat (first|refine a_l ?_ _|refine a_k ?_|refine a_m ?_ _));exact a_o.out) hb);replace a_C:=a_a.mk (a_c (g:=b_d) (o:=.cells #[.slice Ao17 t476.length co17] 26 (0,0)) (by (with_reducible repeat (first|refine a_l ?_ _|refine a_k ?_|refine a_m ?_ _));refine a_u ?_ b_C.out _;(with_reducible repeat (first|refine a_l ?_ _|refine a_k ?_|refine a_m ?_ _));exact a_C.out) hb);replace a_D:=a_a.mk (a_c (g:=a_9) (o:=.cells #[.slice Ao26 t481.length co26] 26 (0,0)) (by (with_reducible repeat (first|refine a_l ?_ _|refine a_k ?_|refine a_m ?_ _));refine a_u ?_ b_D.out _;(with_reducible repeat (first|refine a_l ?_ _|refine a_k ?_|refine a_m ?_ _));exact a_D.out) hb);replace a_3:=a_a.mk (a_c (g:=a_S) (o:=.cells #[.slice e_2 t494.length e_F] 26 (0,0)) (by (with_reducible repeat (first|refine a_l ?_ _|refine a_k ?_|refine a_m ?_ _));refine a_R (cs:=#[.slice none 0 0]) ?_ 0 _ rfl;(with_reducible repeat (first|refine a_l ?_ _|refine a_k ?_|refine a_m ?_ _));exact a_3.out) hb);replace HB:=a_a.mk (a_j (by repeat (first|(with_reducible first|exact HB.out|apply a_g|apply a_d|apply a_h|refine a_b ?_ a_M.out|refine a_b ?_ a_N.out|refine a_b ?_ a_T.out|refine a_b ?_ a_X.out|refine a_b ?_ b_L.out)|exact HB.out)) hb);(try clear hb);(try clear hb2);(try clear hk);(try clear hi);have k_u : w225.cell? ⟨a_S,0,none⟩ = some (.slice e_2 t494.length e_F):=(a_f a_3.out 0).trans rfl;have k_v:=a_e a_3.out 0;have k_w : w225.cell? ⟨a_y,0,none⟩ = some (.int .i64 a1_0):=(a_f a_o.out 0).trans rfl;have k_x : w225.cell? ⟨a_y,1,none⟩ = some (.int .i64 a1_1):=(a_f a_o.out 1).trans rfl;have k_y : w225.cell? ⟨a_y,2,none⟩ = some (.int .i64 a1_2):=(a_f a_o.out 2).trans rfl;have k_z : w225.cell? ⟨a_y,3,none⟩ = some (.int .i64 a1_3):=(a_f a_o.out 3).trans rfl;have k_A : w225.cell? ⟨a_y,4,none⟩ = some (.int .u32 a1_4):=(a_f a_o.out 4).trans rfl;have k_B:=a_e a_o.out 0;have k_C:=a_e a_o.out 1;have k_D:=a_e a_o.out 2;have k_E:=a_e a_o.out 3;have k_F:=a_e a_o.out 4)|((with_reducible refine a_z (f:=31) rfl ?_);refine b_h (some 89) rfl rfl Try.func31 (by kernel_rfl) rfl #[.agg #[.slice e_2 t494.length e_F],.int .i64 a1_3,.int .i64 t497] rfl (by (try simp only [List.map_toArray,List.map_cons,List.map_nil]);first|done|rfl|(simp only [List.length_drop,List.length_take];rfl)) ?_;(with_reducible refine (a_K.calls kj8 _ _ t494 a1_3 t497 t502 t505 t506 _ ?side1 ?side2 A114.out).mono ?_);(case side1 => repeat (first|exact (Kd.a_t b_b.out).2.2|(with_reducible refine Kd.b_a ?_ _)|(with_reducible refine Kd.b_c ?_ _)|(with_reducible refine Kd.b_p ?_)));(case side2 => exact (Kd.a_t b_b.out).2.1);rintro e w228 ⟨v503,rfl,ho0,hb⟩;refine ⟨_,rfl,?_⟩;have c_I:=a_a.mk (Kd.a_5 (Kd.b_r (Kd.b_r (Kd.b_r ho0 (Kd.R_lt (rup_ a_v.out))) (Kd.R_lt (rup_ a_x.out))) (Kd.R_lt (rup_ b_b.out))) (a_p (by repeat (first|(with_reducible first|exact HB.out|apply a_g|apply a_d|apply a_h|refine a_b ?_ a_M.out|refine a_b ?_ a_N.out|refine a_b ?_ a_T.out|refine a_b ?_ a_X.out|refine a_b ?_ b_L.out)|exact HB.out))));replace a_v:=a_a.mk (Kd.a_V (rup_ a_v.out) (Kd.b_n ho0) hb);replace a_x:=a_a.mk (Kd.a_V (rup_ a_x.out) (Kd.b_n ho0) hb);replace b_b:=a_a.mk (Kd.a_V (rup_ b_b.out) (Kd.b_n ho0) hb);replace a_B:=a_a.mk (a_c (bup_ a_B.out) hb);replace a_o:=a_a.mk (a_c (bup_ a_o.out) hb);replace a_C:=a_a.mk (a_c (bup_ a_C.out) hb);replace a_D:=a_a.mk (a_c (bup_ a_D.out) hb);replace a_3:=a_a.mk (a_c (bup_ a_3.out) hb);replace HB:=a_a.mk (a_j (by repeat (first|(with_reducible first|exact HB.out|apply a_g|apply a_d|apply a_h|refine a_b ?_ a_M.out|refine a_b ?_ a_N.out|refine a_b ?_ a_T.out|refine a_b ?_ a_X.out|refine a_b ?_ b_L.out)|exact HB.out)) hb);(try clear hb);(try clear hb2);(try clear hk);(try clear hi);(try clear ho0))|((with_reducible refine a_s (N:=15) rfl ?_);refine a_r ?hg (N:=15) ?hd (cs:=#[.slice none 0 0]) (t:=26) ?hr ?_;(case hd => rfl);(case hg => rfl);(case hr => first|(go_simp;done)|(go_simp;rfl));intro b_f hg w229 hbox hb;have c_K:=a_a.mk (hbox);have g_9:=a_a.mk ((by rw [hg];exact (a_p (by repeat (first|(with_reducible first|exact HB.out|apply a_g|apply a_d|apply a_h|refine a_b ?_ a_M.out|refine a_b ?_ a_N.out|refine a_b ?_ a_T.out|refine a_b ?_ a_X.out|refine a_b ?_ b_L.out)|exact HB.out))) : w.heap.size ≤ b_f));have e_l:=a_a.mk ((by rw [hg];exact (a_p (by repeat (first|(with_reducible first|exact HB.out|apply a_g|apply a_d|apply a_h|refine a_b ?_ a_M.out|refine a_b ?_ a_N.out|refine a_b ?_ a_T.out|refine a_b ?_ a_X.out|refine a_b ?_ b_L.out)|exact HB.out))) : w.heap.size ≤ b_f));have c_b:=a_a.mk ((by rw [hg];exact Nat.ne_of_lt (a_i (bup_ a_B.out)) : b_l ≠ b_f));have c_m:=a_a.mk ((by rw [hg];exact Nat.ne_of_gt (a_i (bup_ a_B.out)) : b_f ≠ b_l));have c_c:=a_a.mk ((by rw [hg];exact Nat.ne_of_lt (a_i (bup_ a_o.out)) : a_y ≠ b_f));have c_n:=a_a.mk ((by rw [hg];exact Nat.ne_of_gt (a_i (bup_ a_o.out)) : b_f ≠ a_y));have c_d:=a_a.mk ((by rw [hg];exact Nat.ne_of_lt (a_i (bup_ a_C.out)) : b_d ≠ b_f));have c_o:=a_a.mk ((by rw [hg];exact Nat.ne_of_gt (a_i (bup_ a_C.out)) : b_f ≠ b_d));have c_e:=a_a.mk ((by rw [hg];exact Nat.ne_of_lt (a_i (bup_ a_D.out)) : a_9 ≠ b_f));have c_p:=a_a.mk ((by rw [hg];exact Nat.ne_of_gt (a_i (bup_ a_D.out)) : b_f ≠ a_9));have c_f:=a_a.mk ((by rw [hg];exact Nat.ne_of_lt (a_i (bup_ a_3.out)) : a_S ≠ b_f));have c_q:=a_a.mk ((by rw [hg];exact Nat.ne_of_gt (a_i (bup_ a_3.out)) : b_f ≠ a_S));replace a_v:=a_a.mk (Kd.a_w (rup_ a_v.out) hb);replace a_x:=a_a.mk (Kd.a_w (rup_ a_x.out) hb);replace b_b:=a_a.mk (Kd.a_w (rup_ b_b.out) hb);replace c_I:=a_a.mk (Kd.a_w (rup_ c_I.out) hb);replace a_B:=a_a.mk (a_c (bup_ a_B.out) hb);replace a_o:=a_a.mk (a_c (bup_ a_o.out) hb);replace a_C:=a_a.mk (a_c (bup_ a_C.out) hb);replace a_D:=a_a.mk (a_c (bup_ a_D.out) hb);replace a_3:=a_a.mk (a_c (bup_ a_3.out) hb);replace HB:=a_a.mk (a_j (by repeat (first|(with_reducible first|exact HB.out|apply a_g|apply a_d|apply a_h|refine a_b ?_ a_M.out|refine a_b ?_ a_N.out|refine a_b ?_ a_T.out|refine a_b ?_ a_X.out|refine a_b ?_ b_L.out)|exact HB.out)) hb);clear hb hbox hg;obtain ⟨t_c,t_d,o_v⟩:=Kd.a_4 c_I.out;subst o_v;have p_U:=c_m.out;have p_V:=c_b.out;have p_W:=c_n.out;have p_X:=c_c.out;have p_Y:=c_o.out;have p_Z:=c_d.out;have p_0:=c_p.out;have p_1:=c_e.out;have p_2:=c_q.out;have p_3:=c_f.out;have k_G : w229.cell? ⟨b_f,0,none⟩ = some (.slice none 0 0):=(a_f c_K.out 0).trans rfl;have k_H:=a_e c_K.out 0;have k_I : w229.cell? ⟨a_y,0,none⟩ = some (.int .i64 a1_0):=(a_f a_o.out 0).trans rfl;have k_J : w229.cell? ⟨a_y,1,none⟩ = some (.int .i64 a1_1):=(a_f a_o.out 1).trans rfl;have k_K : w229.cell? ⟨a_y,2,none⟩ = some (.int .i64 a1_2):=(a_f a_o.out 2).trans rfl;have k_L : w229.cell? ⟨a_y,3,none⟩ = some (.int .i64 a1_3):=(a_f a_o.out 3).trans rfl;have k_M : w229.cell? ⟨a_y,4,none⟩ = some (.int .u32 a1_4):=(a_f a_o.out 4).trans rfl;have k_N:=a_e a_o.out 0;have k_O:=a_e a_o.out 1;have k_P:=a_e a_o.out 2;have k_Q:=a_e a_o.out 3;have k_R:=a_e a_o.out 4))
    go_ret
    exact ⟨by first|rfl|(simp [a_J,a_H] <;> rfl)|(simp [*, a_J,a_H] <;> rfl),by repeat (first|(with_reducible first|exact HB.out|apply a_g|apply a_d|apply a_h|refine a_b ?_ a_M.out|refine a_b ?_ a_N.out|refine a_b ?_ a_T.out|refine a_b ?_ a_X.out|refine a_b ?_ b_L.out|refine a_b ?_ e_l.out)|exact HB.out)⟩
   rw [if_pos c116] at H
   have c116b0 : (t500 == a1_2) = true:=beq_iff_eq.mpr c116
   have c116b1 : (t500 != a1_2) = false:=bne_eq_false_iff_eq.mpr c116
   clear c116
   by_cases c117 : t506 = 0
   rotate_left
   ·rw [if_neg c117] at H
    have c117b0 : (t506 == 0) = false:=beq_eq_false_iff_ne.mpr c117
    have c117b1 : (t506 != 0) = true:=bne_iff_ne.mpr c117
    obtain rfl:=Option.some.inj H
    have p_4:=c_l.out
    have p_5:=b_V.out
    have p_6:=b_M.out
    have p_7:=b_F.out
    have p_8:=b_z.out
    have p_9:=b_X.out
    have k_S : wc.cell? ⟨b_d,0,none⟩ = some (.slice Ao17 t476.length co17):=(a_f a_C.out 0).trans rfl
    have k_T:=a_e a_C.out 0
    have q_a:=b_K.out
    have q_b:=b_J.out
    have q_d:=b_y.out
    have q_e:=b_W.out
    have k_U : wc.cell? ⟨a_y,0,none⟩ = some (.int .i64 a1_0):=(a_f a_o.out 0).trans rfl
    have k_V : wc.cell? ⟨a_y,1,none⟩ = some (.int .i64 a1_1):=(a_f a_o.out 1).trans rfl
    have k_W : wc.cell? ⟨a_y,2,none⟩ = some (.int .i64 a1_2):=(a_f a_o.out 2).trans rfl
    have k_X : wc.cell? ⟨a_y,3,none⟩ = some (.int .i64 a1_3):=(a_f a_o.out 3).trans rfl
    have k_Y : wc.cell? ⟨a_y,4,none⟩ = some (.int .u32 a1_4):=(a_f a_o.out 4).trans rfl
    have k_Z:=a_e a_o.out 0
    have k_0:=a_e a_o.out 1
    have k_1:=a_e a_o.out 2
    have k_2:=a_e a_o.out 3
    have k_3:=a_e a_o.out 4
    go_wp2_with (first|((with_reducible refine a_z (f:=31) rfl ?_);refine b_h (some 67) rfl rfl Try.func31 (by kernel_rfl) rfl #[.agg #[.slice Ao17 t476.length co17],.int .i64 a1_3,.int .i64 a1_2] rfl (by (try simp only [List.map_toArray,List.map_cons,List.map_nil]);first|done|rfl|(simp only [List.length_drop,List.length_take];rfl)) ?_;(with_reducible refine (a_K.calls kj8 _ _ t476 a1_3 a1_2 t494 t497 t498 _ ?side1 ?side2 A111.out).mono ?_);(case side1 => repeat (first|exact (Kd.a_t a_v.out).2.2|(with_reducible refine Kd.b_a ?_ _)|(with_reducible refine Kd.b_c ?_ _)|(with_reducible refine Kd.b_p ?_)));(case side2 => exact (Kd.a_t a_v.out).2.1);rintro e w187 ⟨v495,rfl,ho0,hb⟩;refine ⟨_,rfl,?_⟩;have b_b:=a_a.mk (Kd.a_5 (Kd.b_r (Kd.b_r ho0 (Kd.R_lt (rup_ a_v.out))) (Kd.R_lt (rup_ a_x.out))) (a_p (by repeat (first|(with_reducible first|exact HB.out|apply a_g|apply a_d|apply a_h|refine a_b ?_ a_M.out|refine a_b ?_ a_N.out|refine a_b ?_ a_T.out|refine a_b ?_ a_X.out)|exact HB.out))));replace a_v:=a_a.mk (Kd.a_V (rup_ a_v.out) (Kd.b_n ho0) hb);replace a_x:=a_a.mk (Kd.a_V (rup_ a_x.out) (Kd.b_n ho0) hb);replace a_B:=a_a.mk (a_c (bup_ a_B.out) hb);replace a_o:=a_a.mk (a_c (bup_ a_o.out) hb);replace a_C:=a_a.mk (a_c (bup_ a_C.out) hb);replace a_D:=a_a.mk (a_c (bup_ a_D.out) hb);replace HB:=a_a.mk (a_j (by repeat (first|(with_reducible first|exact HB.out|apply a_g|apply a_d|apply a_h|refine a_b ?_ a_M.out|refine a_b ?_ a_N.out|refine a_b ?_ a_T.out|refine a_b ?_ a_X.out)|exact HB.out)) hb);(try clear hb);(try clear hb2);(try clear hk);(try clear hi);(try clear ho0))|((with_reducible refine a_s (N:=11) rfl ?_);refine a_r ?hg (N:=11) ?hd (cs:=#[.slice none 0 0]) (t:=26) ?hr ?_;(case hd => rfl);(case hg => rfl);(case hr => first|(go_simp;done)|(go_simp;rfl));intro a_S hg w188 hbox hb;have a_3:=a_a.mk (hbox);have g_v:=a_a.mk ((by rw [hg];exact (a_p (by repeat (first|(with_reducible first|exact HB.out|apply a_g|apply a_d|apply a_h|refine a_b ?_ a_M.out|refine a_b ?_ a_N.out|refine a_b ?_ a_T.out|refine a_b ?_ a_X.out)|exact HB.out))) : w.heap.size ≤ a_S));have b_L:=a_a.mk ((by rw [hg];exact (a_p (by repeat (first|(with_reducible first|exact HB.out|apply a_g|apply a_d|apply a_h|refine a_b ?_ a_M.out|refine a_b ?_ a_N.out|refine a_b ?_ a_T.out|refine a_b ?_ a_X.out)|exact HB.out))) : w.heap.size ≤ a_S));have b_A:=a_a.mk ((by rw [hg];exact Nat.ne_of_lt (a_i (bup_ a_B.out)) : b_l ≠ a_S));have b_2:=a_a.mk ((by rw [hg];exact Nat.ne_of_gt (a_i (bup_ a_B.out)) : a_S ≠ b_l));have b_B:=a_a.mk ((by rw [hg];exact Nat.ne_of_lt (a_i (bup_ a_o.out)) : a_y ≠ a_S));have b_3:=a_a.mk ((by rw [hg];exact Nat.ne_of_gt (a_i (bup_ a_o.out)) : a_S ≠ a_y));have b_C:=a_a.mk ((by rw [hg];exact Nat.ne_of_lt (a_i (bup_ a_C.out)) : b_d ≠ a_S));have b_4:=a_a.mk ((by rw [hg];exact Nat.ne_of_gt (a_i (bup_ a_C.out)) : a_S ≠ b_d));have b_D:=a_a.mk ((by rw [hg];exact Nat.ne_of_lt (a_i (bup_ a_D.out)) : a_9 ≠ a_S));have b_5:=a_a.mk ((by rw [hg];exact Nat.ne_of_gt (a_i (bup_ a_D.out)) : a_S ≠ a_9));replace a_v:=a_a.mk (Kd.a_w (rup_ a_v.out) hb);replace a_x:=a_a.mk (Kd.a_w (rup_ a_x.out) hb);replace b_b:=a_a.mk (Kd.a_w (rup_ b_b.out) hb);replace a_B:=a_a.mk (a_c (bup_ a_B.out) hb);replace a_o:=a_a.mk (a_c (bup_ a_o.out) hb);replace a_C:=a_a.mk (a_c (bup_ a_C.out) hb);replace a_D:=a_a.mk (a_c (bup_ a_D.out) hb);replace HB:=a_a.mk (a_j (by repeat (first|(with_reducible first|exact HB.out|apply a_g|apply a_d|apply a_h|refine a_b ?_ a_M.out|refine a_b ?_ a_N.out|refine a_b ?_ a_T.out|refine a_b ?_ a_X.out)|exact HB.out)) hb);clear hb hbox hg;obtain ⟨e_3,e_G,o_w⟩:=Kd.a_4 b_b.out;subst o_w;have q_f:=b_2.out;have q_g:=b_A.out;have q_h:=b_3.out;have q_i:=b_B.out;have q_j:=b_4.out;have q_k:=b_C.out;have q_l:=b_5.out;have q_m:=b_D.out;have k_4 : w188.cell? ⟨a_S,0,none⟩ = some (.slice none 0 0):=(a_f a_3.out 0).trans rfl;have k_5:=a_e a_3.out 0;have k_6 : w188.cell? ⟨a_y,0,none⟩ = some (.int .i64 a1_0):=(a_f a_o.out 0).trans rfl;have k_7 : w188.cell? ⟨a_y,1,none⟩ = some (.int .i64 a1_1):=(a_f a_o.out 1).trans rfl;have k_8 : w188.cell? ⟨a_y,2,none⟩ = some (.int .i64 a1_2):=(a_f a_o.out 2).trans rfl;have k_9 : w188.cell? ⟨a_y,3,none⟩ = some (.int .i64 a1_3):=(a_f a_o.out 3).trans rfl;have l_a : w188.cell? ⟨a_y,4,none⟩ = some (.int .u32 a1_4):=(a_f a_o.out 4).trans rfl;have l_b:=a_e a_o.out 0;have l_d:=a_e a_o.out 1;have l_e:=a_e a_o.out 2;have l_f:=a_e a_o.out 3;have l_g:=a_e a_o.out 4)|((with_reducible refine a_z (f:=20) rfl ?_);refine b_h (some 81) rfl rfl Try.func20 (by kernel_rfl) rfl #[.agg #[.slice e_3 t494.length e_G],.int .i64 a1_3] rfl (by (try simp only [List.map_toArray,List.map_cons,List.map_nil]);first|done|rfl|(simp only [List.length_drop,List.length_take];rfl)) ?_;(with_reducible refine (b_t.calls kj8 _ _ t494 a1_3 t500 true _ ?side1 ?side2 A113.out).mono ?_);(case side1 => refine (Kd.a_t (e:=31) (base:=w.heap.size) (ok:=fun k_ => ((True ∧ some k_ ≠ (.slice Ao17 t476.length co17 : Value).ownBlock) ∧ some k_ ≠ (.slice Ao26 t481.length co26 : Value).ownBlock)) (n:=t494.length) (c:=e_G) ?_).2.2;exact (by (with_reducible repeat (first|apply Kd.a_F|apply Kd.a_E|apply Kd.a_G));exact (Kd.a_L (Kd.a_7 (p:=⟨a_S,0,none⟩) (Kd.a_I b_b.out a_3.out (by decide)) (fun _ hk => hk.2) (.slice e_3 t494.length e_G)) (fun _ h_ => h_.1))));(case side2 => exact (Kd.a_t b_b.out).2.1);rintro e w196 ⟨rfl,hb⟩;refine ⟨_,rfl,?_⟩;replace a_v:=a_a.mk (Kd.a_w (by (with_reducible repeat (first|apply Kd.a_F|apply Kd.a_E|apply Kd.a_G));exact (Kd.a_L (Kd.a_7 (p:=⟨a_S,0,none⟩) (Kd.a_I a_v.out a_3.out (by decide)) (fun _ hk => hk.2) (.slice e_3 t494.length e_G)) (fun _ h_ => h_.1))) hb);replace a_x:=a_a.mk (Kd.a_w (by (with_reducible repeat (first|apply Kd.a_F|apply Kd.a_E|apply Kd.a_G));exact (Kd.a_L (Kd.a_7 (p:=⟨a_S,0,none⟩) (Kd.a_I a_x.out a_3.out (by decide)) (fun _ hk => hk.2) (.slice e_3 t494.length e_G)) (fun _ h_ => h_.1))) hb);replace b_b:=a_a.mk (Kd.a_w (by (with_reducible repeat (first|apply Kd.a_F|apply Kd.a_E|apply Kd.a_G));exact (Kd.a_L (Kd.a_7 (p:=⟨a_S,0,none⟩) (Kd.a_I b_b.out a_3.out (by decide)) (fun _ hk => hk.2) (.slice e_3 t494.length e_G)) (fun _ h_ => h_.1))) hb);replace a_B:=a_a.mk (a_c (g:=b_l) (o:=.cells #[.slice A0_0 l0_0.length c0_0] 26 (0,0)) (by (with_reducible repeat (first|refine a_l ?_ _|refine a_k ?_|refine a_m ?_ _));refine a_u ?_ b_A.out _;(with_reducible repeat (first|refine a_l ?_ _|refine a_k ?_|refine a_m ?_ _));exact a_B.out) hb);replace a_o:=a_a.mk (a_c (g:=a_y) (o:=.cells #[.int .i64 a1_0,.int .i64 a1_1,.int .i64 a1_2,.int .i64 a1_3,.int .u32 a1_4] 36 (0,0)) (by (with_reducible repeat (first|refine a_l ?_ _|refine a_k ?_|refine a_m ?_ _));refine a_u ?_ b_B.out _;(with_reducible repeat (first|refine a_l ?_ _|refine a_k ?_|refine a_m ?_ _));exact a_o.out) hb);replace a_C:=a_a.mk (a_c (g:=b_d) (o:=.cells #[.slice Ao17 t476.length co17] 26 (0,0)) (by (with_reducible repeat (first|refine a_l ?_ _|refine a_k ?_|refine a_m ?_ _));refine a_u ?_ b_C.out _;(with_reducible repeat (first|refine a_l ?_ _|refine a_k ?_|refine a_m ?_ _));exact a_C.out) hb);replace a_D:=a_a.mk (a_c (g:=a_9) (o:=.cells #[.slice Ao26 t481.length co26] 26 (0,0)) (by (with_reducible repeat (first|refine a_l ?_ _|refine a_k ?_|refine a_m ?_ _));refine a_u ?_ b_D.out _;(with_reducible repeat (first|refine a_l ?_ _|refine a_k ?_|refine a_m ?_ _));exact a_D.out) hb);replace a_3:=a_a.mk (a_c (g:=a_S) (o:=.cells #[.slice e_3 t494.length e_G] 26 (0,0)) (by (with_reducible repeat (first|refine a_l ?_ _|refine a_k ?_|refine a_m ?_ _));refine a_R (cs:=#[.slice none 0 0]) ?_ 0 _ rfl;(with_reducible repeat (first|refine a_l ?_ _|refine a_k ?_|refine a_m ?_ _));exact a_3.out) hb);replace HB:=a_a.mk (a_j (by repeat (first|(with_reducible first|exact HB.out|apply a_g|apply a_d|apply a_h|refine a_b ?_ a_M.out|refine a_b ?_ a_N.out|refine a_b ?_ a_T.out|refine a_b ?_ a_X.out|refine a_b ?_ b_L.out)|exact HB.out)) hb);(try clear hb);(try clear hb2);(try clear hk);(try clear hi);have l_h : w196.cell? ⟨a_S,0,none⟩ = some (.slice e_3 t494.length e_G):=(a_f a_3.out 0).trans rfl;have l_i:=a_e a_3.out 0;have l_j : w196.cell? ⟨a_y,0,none⟩ = some (.int .i64 a1_0):=(a_f a_o.out 0).trans rfl;have l_k : w196.cell? ⟨a_y,1,none⟩ = some (.int .i64 a1_1):=(a_f a_o.out 1).trans rfl;have l_l : w196.cell? ⟨a_y,2,none⟩ = some (.int .i64 a1_2):=(a_f a_o.out 2).trans rfl;have l_m : w196.cell? ⟨a_y,3,none⟩ = some (.int .i64 a1_3):=(a_f a_o.out 3).trans rfl;have l_n : w196.cell? ⟨a_y,4,none⟩ = some (.int .u32 a1_4):=(a_f a_o.out 4).trans rfl;have l_o:=a_e a_o.out 0;have l_p:=a_e a_o.out 1;have l_q:=a_e a_o.out 2;have l_r:=a_e a_o.out 3;have l_s:=a_e a_o.out 4)|((with_reducible refine a_z (f:=31) rfl ?_);refine b_h (some 89) rfl rfl Try.func31 (by kernel_rfl) rfl #[.agg #[.slice e_3 t494.length e_G],.int .i64 a1_3,.int .i64 t497] rfl (by (try simp only [List.map_toArray,List.map_cons,List.map_nil]);first|done|rfl|(simp only [List.length_drop,List.length_take];rfl)) ?_;(with_reducible refine (a_K.calls kj8 _ _ t494 a1_3 t497 t502 t505 t506 _ ?side1 ?side2 A114.out).mono ?_);(case side1 => repeat (first|exact (Kd.a_t b_b.out).2.2|(with_reducible refine Kd.b_a ?_ _)|(with_reducible refine Kd.b_c ?_ _)|(with_reducible refine Kd.b_p ?_)));(case side2 => exact (Kd.a_t b_b.out).2.1);rintro e w199 ⟨v503,rfl,ho0,hb⟩;refine ⟨_,rfl,?_⟩;have c_I:=a_a.mk (Kd.a_5 (Kd.b_r (Kd.b_r (Kd.b_r ho0 (Kd.R_lt (rup_ a_v.out))) (Kd.R_lt (rup_ a_x.out))) (Kd.R_lt (rup_ b_b.out))) (a_p (by repeat (first|(with_reducible first|exact HB.out|apply a_g|apply a_d|apply a_h|refine a_b ?_ a_M.out|refine a_b ?_ a_N.out|refine a_b ?_ a_T.out|refine a_b ?_ a_X.out|refine a_b ?_ b_L.out)|exact HB.out))));replace a_v:=a_a.mk (Kd.a_V (rup_ a_v.out) (Kd.b_n ho0) hb);replace a_x:=a_a.mk (Kd.a_V (rup_ a_x.out) (Kd.b_n ho0) hb);replace b_b:=a_a.mk (Kd.a_V (rup_ b_b.out) (Kd.b_n ho0) hb);replace a_B:=a_a.mk (a_c (bup_ a_B.out) hb);replace a_o:=a_a.mk (a_c (bup_ a_o.out) hb);replace a_C:=a_a.mk (a_c (bup_ a_C.out) hb);replace a_D:=a_a.mk (a_c (bup_ a_D.out) hb);replace a_3:=a_a.mk (a_c (bup_ a_3.out) hb);replace HB:=a_a.mk (a_j (by repeat (first|(with_reducible first|exact HB.out|apply a_g|apply a_d|apply a_h|refine a_b ?_ a_M.out|refine a_b ?_ a_N.out|refine a_b ?_ a_T.out|refine a_b ?_ a_X.out|refine a_b ?_ b_L.out)|exact HB.out)) hb);(try clear hb);(try clear hb2);(try clear hk);(try clear hi);(try clear ho0))|((with_reducible refine a_s (N:=15) rfl ?_);refine a_r ?hg (N:=15) ?hd (cs:=#[.slice none 0 0]) (t:=26) ?hr ?_;(case hd => rfl);(case hg => rfl);(case hr => first|(go_simp;done)|(go_simp;rfl));intro b_f hg w200 hbox hb;have c_K:=a_a.mk (hbox);have g_9:=a_a.mk ((by rw [hg];exact (a_p (by repeat (first|(with_reducible first|exact HB.out|apply a_g|apply a_d|apply a_h|refine a_b ?_ a_M.out|refine a_b ?_ a_N.out|refine a_b ?_ a_T.out|refine a_b ?_ a_X.out|refine a_b ?_ b_L.out)|exact HB.out))) : w.heap.size ≤ b_f));have e_l:=a_a.mk ((by rw [hg];exact (a_p (by repeat (first|(with_reducible first|exact HB.out|apply a_g|apply a_d|apply a_h|refine a_b ?_ a_M.out|refine a_b ?_ a_N.out|refine a_b ?_ a_T.out|refine a_b ?_ a_X.out|refine a_b ?_ b_L.out)|exact HB.out))) : w.heap.size ≤ b_f));have c_b:=a_a.mk ((by rw [hg];exact Nat.ne_of_lt (a_i (bup_ a_B.out)) : b_l ≠ b_f));have c_m:=a_a.mk ((by rw [hg];exact Nat.ne_of_gt (a_i (bup_ a_B.out)) : b_f ≠ b_l));have c_c:=a_a.mk ((by rw [hg];exact Nat.ne_of_lt (a_i (bup_ a_o.out)) : a_y ≠ b_f));have c_n:=a_a.mk ((by rw [hg];exact Nat.ne_of_gt (a_i (bup_ a_o.out)) : b_f ≠ a_y));have c_d:=a_a.mk ((by rw [hg];exact Nat.ne_of_lt (a_i (bup_ a_C.out)) : b_d ≠ b_f));have c_o:=a_a.mk ((by rw [hg];exact Nat.ne_of_gt (a_i (bup_ a_C.out)) : b_f ≠ b_d));have c_e:=a_a.mk ((by rw [hg];exact Nat.ne_of_lt (a_i (bup_ a_D.out)) : a_9 ≠ b_f));have c_p:=a_a.mk ((by rw [hg];exact Nat.ne_of_gt (a_i (bup_ a_D.out)) : b_f ≠ a_9));have c_f:=a_a.mk ((by rw [hg];exact Nat.ne_of_lt (a_i (bup_ a_3.out)) : a_S ≠ b_f));have c_q:=a_a.mk ((by rw [hg];exact Nat.ne_of_gt (a_i (bup_ a_3.out)) : b_f ≠ a_S));replace a_v:=a_a.mk (Kd.a_w (rup_ a_v.out) hb);replace a_x:=a_a.mk (Kd.a_w (rup_ a_x.out) hb);replace b_b:=a_a.mk (Kd.a_w (rup_ b_b.out) hb);replace c_I:=a_a.mk (Kd.a_w (rup_ c_I.out) hb);replace a_B:=a_a.mk (a_c (bup_ a_B.out) hb);replace a_o:=a_a.mk (a_c (bup_ a_o.out) hb);replace a_C:=a_a.mk (a_c (bup_ a_C.out) hb);replace a_D:=a_a.mk (a_c (bup_ a_D.out) hb);replace a_3:=a_a.mk (a_c (bup_ a_3.out) hb);replace HB:=a_a.mk (a_j (by repeat (first|(with_reducible first|exact HB.out|apply a_g|apply a_d|apply a_h|refine a_b ?_ a_M.out|refine a_b ?_ a_N.out|refine a_b ?_ a_T.out|refine a_b ?_ a_X.out|refine a_b ?_ b_L.out)|exact HB.out)) hb);clear hb hbox hg;obtain ⟨t_e,t_f,o_x⟩:=Kd.a_4 c_I.out;subst o_x;have q_n:=c_m.out;have q_o:=c_b.out;have q_p:=c_n.out;have q_q:=c_c.out;have q_r:=c_o.out;have q_s:=c_d.out;have q_t:=c_p.out;have q_u:=c_e.out;have q_v:=c_q.out;have q_w:=c_f.out;have l_t : w200.cell? ⟨b_f,0,none⟩ = some (.slice none 0 0):=(a_f c_K.out 0).trans rfl;have l_u:=a_e c_K.out 0;have l_v : w200.cell? ⟨a_y,0,none⟩ = some (.int .i64 a1_0):=(a_f a_o.out 0).trans rfl;have l_w : w200.cell? ⟨a_y,1,none⟩ = some (.int .i64 a1_1):=(a_f a_o.out 1).trans rfl;have l_x : w200.cell? ⟨a_y,2,none⟩ = some (.int .i64 a1_2):=(a_f a_o.out 2).trans rfl;have l_y : w200.cell? ⟨a_y,3,none⟩ = some (.int .i64 a1_3):=(a_f a_o.out 3).trans rfl;have l_z : w200.cell? ⟨a_y,4,none⟩ = some (.int .u32 a1_4):=(a_f a_o.out 4).trans rfl;have l_A:=a_e a_o.out 0;have l_B:=a_e a_o.out 1;have l_C:=a_e a_o.out 2;have l_D:=a_e a_o.out 3;have l_E:=a_e a_o.out 4))
    go_ret
    exact ⟨by first|rfl|(simp [a_J,a_H] <;> rfl)|(simp [*, a_J,a_H] <;> rfl),by repeat (first|(with_reducible first|exact HB.out|apply a_g|apply a_d|apply a_h|refine a_b ?_ a_M.out|refine a_b ?_ a_N.out|refine a_b ?_ a_T.out|refine a_b ?_ a_X.out|refine a_b ?_ b_L.out|refine a_b ?_ e_l.out)|exact HB.out)⟩
   rw [if_pos c117] at H
   have c117b0 : (t506 == 0) = true:=beq_iff_eq.mpr c117
   have c117b1 : (t506 != 0) = false:=bne_eq_false_iff_eq.mpr c117
   clear c117
   by_cases c118 : t505 = a1_2
   rotate_left
   ·rw [if_neg c118] at H
    have c118b0 : (t505 == a1_2) = false:=beq_eq_false_iff_ne.mpr c118
    have c118b1 : (t505 != a1_2) = true:=bne_iff_ne.mpr c118
    obtain rfl:=Option.some.inj H
    have q_x:=c_l.out
    have q_y:=b_V.out
    have q_z:=b_M.out
    have q_A:=b_F.out
    have q_B:=b_z.out
    have q_C:=b_X.out
    have l_F : wc.cell? ⟨b_d,0,none⟩ = some (.slice Ao17 t476.length co17):=(a_f a_C.out 0).trans rfl
    have l_G:=a_e a_C.out 0
    have q_D:=b_K.out
    have q_E:=b_J.out
    have q_F:=b_y.out
    have q_G:=b_W.out
    have l_H : wc.cell? ⟨a_y,0,none⟩ = some (.int .i64 a1_0):=(a_f a_o.out 0).trans rfl
    have l_I : wc.cell? ⟨a_y,1,none⟩ = some (.int .i64 a1_1):=(a_f a_o.out 1).trans rfl
    have l_J : wc.cell? ⟨a_y,2,none⟩ = some (.int .i64 a1_2):=(a_f a_o.out 2).trans rfl
    have l_K : wc.cell? ⟨a_y,3,none⟩ = some (.int .i64 a1_3):=(a_f a_o.out 3).trans rfl
    have l_L : wc.cell? ⟨a_y,4,none⟩ = some (.int .u32 a1_4):=(a_f a_o.out 4).trans rfl
    have l_M:=a_e a_o.out 0
    have l_N:=a_e a_o.out 1
    have l_O:=a_e a_o.out 2
    have l_P:=a_e a_o.out 3
    have l_Q:=a_e a_o.out 4
    go_wp2_with (first|((with_reducible refine a_z (f:=31) rfl ?_);refine b_h (some 67) rfl rfl Try.func31 (by kernel_rfl) rfl #[.agg #[.slice Ao17 t476.length co17],.int .i64 a1_3,.int .i64 a1_2] rfl (by (try simp only [List.map_toArray,List.map_cons,List.map_nil]);first|done|rfl|(simp only [List.length_drop,List.length_take];rfl)) ?_;(with_reducible refine (a_K.calls kj8 _ _ t476 a1_3 a1_2 t494 t497 t498 _ ?side1 ?side2 A111.out).mono ?_);(case side1 => repeat (first|exact (Kd.a_t a_v.out).2.2|(with_reducible refine Kd.b_a ?_ _)|(with_reducible refine Kd.b_c ?_ _)|(with_reducible refine Kd.b_p ?_)));(case side2 => exact (Kd.a_t a_v.out).2.1);rintro e w158 ⟨v495,rfl,ho0,hb⟩;refine ⟨_,rfl,?_⟩;have b_b:=a_a.mk (Kd.a_5 (Kd.b_r (Kd.b_r ho0 (Kd.R_lt (rup_ a_v.out))) (Kd.R_lt (rup_ a_x.out))) (a_p (by repeat (first|(with_reducible first|exact HB.out|apply a_g|apply a_d|apply a_h|refine a_b ?_ a_M.out|refine a_b ?_ a_N.out|refine a_b ?_ a_T.out|refine a_b ?_ a_X.out)|exact HB.out))));replace a_v:=a_a.mk (Kd.a_V (rup_ a_v.out) (Kd.b_n ho0) hb);replace a_x:=a_a.mk (Kd.a_V (rup_ a_x.out) (Kd.b_n ho0) hb);replace a_B:=a_a.mk (a_c (bup_ a_B.out) hb);replace a_o:=a_a.mk (a_c (bup_ a_o.out) hb);replace a_C:=a_a.mk (a_c (bup_ a_C.out) hb);replace a_D:=a_a.mk (a_c (bup_ a_D.out) hb);replace HB:=a_a.mk (a_j (by repeat (first|(with_reducible first|exact HB.out|apply a_g|apply a_d|apply a_h|refine a_b ?_ a_M.out|refine a_b ?_ a_N.out|refine a_b ?_ a_T.out|refine a_b ?_ a_X.out)|exact HB.out)) hb);(try clear hb);(try clear hb2);(try clear hk);(try clear hi);(try clear ho0))|((with_reducible refine a_s (N:=11) rfl ?_);refine a_r ?hg (N:=11) ?hd (cs:=#[.slice none 0 0]) (t:=26) ?hr ?_;(case hd => rfl);(case hg => rfl);(case hr => first|(go_simp;done)|(go_simp;rfl));intro a_S hg w159 hbox hb;have a_3:=a_a.mk (hbox);have g_v:=a_a.mk ((by rw [hg];exact (a_p (by repeat (first|(with_reducible first|exact HB.out|apply a_g|apply a_d|apply a_h|refine a_b ?_ a_M.out|refine a_b ?_ a_N.out|refine a_b ?_ a_T.out|refine a_b ?_ a_X.out)|exact HB.out))) : w.heap.size ≤ a_S));have b_L:=a_a.mk ((by rw [hg];exact (a_p (by repeat (first|(with_reducible first|exact HB.out|apply a_g|apply a_d|apply a_h|refine a_b ?_ a_M.out|refine a_b ?_ a_N.out|refine a_b ?_ a_T.out|refine a_b ?_ a_X.out)|exact HB.out))) : w.heap.size ≤ a_S));have b_A:=a_a.mk ((by rw [hg];exact Nat.ne_of_lt (a_i (bup_ a_B.out)) : b_l ≠ a_S));have b_2:=a_a.mk ((by rw [hg];exact Nat.ne_of_gt (a_i (bup_ a_B.out)) : a_S ≠ b_l));have b_B:=a_a.mk ((by rw [hg];exact Nat.ne_of_lt (a_i (bup_ a_o.out)) : a_y ≠ a_S));have b_3:=a_a.mk ((by rw [hg];exact Nat.ne_of_gt (a_i (bup_ a_o.out)) : a_S ≠ a_y));have b_C:=a_a.mk ((by rw [hg];exact Nat.ne_of_lt (a_i (bup_ a_C.out)) : b_d ≠ a_S));have b_4:=a_a.mk ((by rw [hg];exact Nat.ne_of_gt (a_i (bup_ a_C.out)) : a_S ≠ b_d));have b_D:=a_a.mk ((by rw [hg];exact Nat.ne_of_lt (a_i (bup_ a_D.out)) : a_9 ≠ a_S));have b_5:=a_a.mk ((by rw [hg];exact Nat.ne_of_gt (a_i (bup_ a_D.out)) : a_S ≠ a_9));replace a_v:=a_a.mk (Kd.a_w (rup_ a_v.out) hb);replace a_x:=a_a.mk (Kd.a_w (rup_ a_x.out) hb);replace b_b:=a_a.mk (Kd.a_w (rup_ b_b.out) hb);replace a_B:=a_a.mk (a_c (bup_ a_B.out) hb);replace a_o:=a_a.mk (a_c (bup_ a_o.out) hb);replace a_C:=a_a.mk (a_c (bup_ a_C.out) hb);replace a_D:=a_a.mk (a_c (bup_ a_D.out) hb);replace HB:=a_a.mk (a_j (by repeat (first|(with_reducible first|exact HB.out|apply a_g|apply a_d|apply a_h|refine a_b ?_ a_M.out|refine a_b ?_ a_N.out|refine a_b ?_ a_T.out|refine a_b ?_ a_X.out)|exact HB.out)) hb);clear hb hbox hg;obtain ⟨e_4,e_H,o_y⟩:=Kd.a_4 b_b.out;subst o_y;have q_H:=b_2.out;have q_I:=b_A.out;have q_J:=b_3.out;have q_K:=b_B.out;have q_L:=b_4.out;have q_M:=b_C.out;have q_N:=b_5.out;have q_O:=b_D.out;have l_R : w159.cell? ⟨a_S,0,none⟩ = some (.slice none 0 0):=(a_f a_3.out 0).trans rfl;have l_S:=a_e a_3.out 0;have l_T : w159.cell? ⟨a_y,0,none⟩ = some (.int .i64 a1_0):=(a_f a_o.out 0).trans rfl;have l_U : w159.cell? ⟨a_y,1,none⟩ = some (.int .i64 a1_1):=(a_f a_o.out 1).trans rfl;have l_V : w159.cell? ⟨a_y,2,none⟩ = some (.int .i64 a1_2):=(a_f a_o.out 2).trans rfl;have l_W : w159.cell? ⟨a_y,3,none⟩ = some (.int .i64 a1_3):=(a_f a_o.out 3).trans rfl;have l_X : w159.cell? ⟨a_y,4,none⟩ = some (.int .u32 a1_4):=(a_f a_o.out 4).trans rfl;have l_Y:=a_e a_o.out 0;have l_Z:=a_e a_o.out 1;have l_0:=a_e a_o.out 2;have l_1:=a_e a_o.out 3;have l_2:=a_e a_o.out 4)|((with_reducible refine a_z (f:=20) rfl ?_);refine b_h (some 81) rfl rfl Try.func20 (by kernel_rfl) rfl #[.agg #[.slice e_4 t494.length e_H],.int .i64 a1_3] rfl (by (try simp only [List.map_toArray,List.map_cons,List.map_nil]);first|done|rfl|(simp only [List.length_drop,List.length_take];rfl)) ?_;(with_reducible refine (b_t.calls kj8 _ _ t494 a1_3 t500 true _ ?side1 ?side2 A113.out).mono ?_);(case side1 => refine (Kd.a_t (e:=31) (base:=w.heap.size) (ok:=fun k_ => ((True ∧ some k_ ≠ (.slice Ao17 t476.length co17 : Value).ownBlock) ∧ some k_ ≠ (.slice Ao26 t481.length co26 : Value).ownBlock)) (n:=t494.length) (c:=e_H) ?_).2.2;exact (by (with_reducible repeat (first|apply Kd.a_F|apply Kd.a_E|apply Kd.a_G));exact (Kd.a_L (Kd.a_7 (p:=⟨a_S,0,none⟩) (Kd.a_I b_b.out a_3.out (by decide)) (fun _ hk => hk.2) (.slice e_4 t494.length e_H)) (fun _ h_ => h_.1))));(case side2 => exact (Kd.a_t b_b.out).2.1);rintro e w167 ⟨rfl,hb⟩;refine ⟨_,rfl,?_⟩;replace a_v:=a_a.mk (Kd.a_w (by (with_reducible repeat (first|apply Kd.a_F|apply Kd.a_E|apply Kd.a_G));exact (Kd.a_L (Kd.a_7 (p:=⟨a_S,0,none⟩) (Kd.a_I a_v.out a_3.out (by decide)) (fun _ hk => hk.2) (.slice e_4 t494.length e_H)) (fun _ h_ => h_.1))) hb);replace a_x:=a_a.mk (Kd.a_w (by (with_reducible repeat (first|apply Kd.a_F|apply Kd.a_E|apply Kd.a_G));exact (Kd.a_L (Kd.a_7 (p:=⟨a_S,0,none⟩) (Kd.a_I a_x.out a_3.out (by decide)) (fun _ hk => hk.2) (.slice e_4 t494.length e_H)) (fun _ h_ => h_.1))) hb);replace b_b:=a_a.mk (Kd.a_w (by (with_reducible repeat (first|apply Kd.a_F|apply Kd.a_E|apply Kd.a_G));exact (Kd.a_L (Kd.a_7 (p:=⟨a_S,0,none⟩) (Kd.a_I b_b.out a_3.out (by decide)) (fun _ hk => hk.2) (.slice e_4 t494.length e_H)) (fun _ h_ => h_.1))) hb);replace a_B:=a_a.mk (a_c (g:=b_l) (o:=.cells #[.slice A0_0 l0_0.length c0_0] 26 (0,0)) (by (with_reducible repeat (first|refine a_l ?_ _|refine a_k ?_|refine a_m ?_ _));refine a_u ?_ b_A.out _;(with_reducible repeat (first|refine a_l ?_ _|refine a_k ?_|refine a_m ?_ _));exact a_B.out) hb);replace a_o:=a_a.mk (a_c (g:=a_y) (o:=.cells #[.int .i64 a1_0,.int .i64 a1_1,.int .i64 a1_2,.int .i64 a1_3,.int .u32 a1_4] 36 (0,0)) (by (with_reducible repeat (first|refine a_l ?_ _|refine a_k ?_|refine a_m ?_ _));refine a_u ?_ b_B.out _;(with_reducible repeat (first|refine a_l ?_ _|refine a_k ?_|refine a_m ?_ _));exact a_o.out) hb);replace a_C:=a_a.mk (a_c (g:=b_d) (o:=.cells #[.slice Ao17 t476.length co17] 26 (0,0)) (by (with_reducible repeat (first|refine a_l ?_ _|refine a_k ?_|refine a_m ?_ _));refine a_u ?_ b_C.out _;(with_reducible repeat (first|refine a_l ?_ _|refine a_k ?_|refine a_m ?_ _));exact a_C.out) hb);replace a_D:=a_a.mk (a_c (g:=a_9) (o:=.cells #[.slice Ao26 t481.length co26] 26 (0,0)) (by (with_reducible repeat (first|refine a_l ?_ _|refine a_k ?_|refine a_m ?_ _));refine a_u ?_ b_D.out _;(with_reducible repeat (first|refine a_l ?_ _|refine a_k ?_|refine a_m ?_ _));exact a_D.out) hb);replace a_3:=a_a.mk (a_c (g:=a_S) (o:=.cells #[.slice e_4 t494.length e_H] 26 (0,0)) (by (with_reducible repeat (first|refine a_l ?_ _|refine a_k ?_|refine a_m ?_ _));refine a_R (cs:=#[.slice none 0 0]) ?_ 0 _ rfl;(with_reducible repeat (first|refine a_l ?_ _|refine a_k ?_|refine a_m ?_ _));exact a_3.out) hb);replace HB:=a_a.mk (a_j (by repeat (first|(with_reducible first|exact HB.out|apply a_g|apply a_d|apply a_h|refine a_b ?_ a_M.out|refine a_b ?_ a_N.out|refine a_b ?_ a_T.out|refine a_b ?_ a_X.out|refine a_b ?_ b_L.out)|exact HB.out)) hb);(try clear hb);(try clear hb2);(try clear hk);(try clear hi);have l_3 : w167.cell? ⟨a_S,0,none⟩ = some (.slice e_4 t494.length e_H):=(a_f a_3.out 0).trans rfl;have l_4:=a_e a_3.out 0;have l_5 : w167.cell? ⟨a_y,0,none⟩ = some (.int .i64 a1_0):=(a_f a_o.out 0).trans rfl;have l_6 : w167.cell? ⟨a_y,1,none⟩ = some (.int .i64 a1_1):=(a_f a_o.out 1).trans rfl;have l_7 : w167.cell? ⟨a_y,2,none⟩ = some (.int .i64 a1_2):=(a_f a_o.out 2).trans rfl;have l_8 : w167.cell? ⟨a_y,3,none⟩ = some (.int .i64 a1_3):=(a_f a_o.out 3).trans rfl;have l_9 : w167.cell? ⟨a_y,4,none⟩ = some (.int .u32 a1_4):=(a_f a_o.out 4).trans rfl;have m_a:=a_e a_o.out 0;have m_b:=a_e a_o.out 1;have m_c:=a_e a_o.out 2;have m_d:=a_e a_o.out 3;have m_e:=a_e a_o.out 4)|((with_reducible refine a_z (f:=31) rfl ?_);refine b_h (some 89) rfl rfl Try.func31 (by kernel_rfl) rfl #[.agg #[.slice e_4 t494.length e_H],.int .i64 a1_3,.int .i64 t497] rfl (by (try simp only [List.map_toArray,List.map_cons,List.map_nil]);first|done|rfl|(simp only [List.length_drop,List.length_take];rfl)) ?_;(with_reducible refine (a_K.calls kj8 _ _ t494 a1_3 t497 t502 t505 t506 _ ?side1 ?side2 A114.out).mono ?_);(case side1 => repeat (first|exact (Kd.a_t b_b.out).2.2|(with_reducible refine Kd.b_a ?_ _)|(with_reducible refine Kd.b_c ?_ _)|(with_reducible refine Kd.b_p ?_)));(case side2 => exact (Kd.a_t b_b.out).2.1);rintro e w170 ⟨v503,rfl,ho0,hb⟩;refine ⟨_,rfl,?_⟩;have c_I:=a_a.mk (Kd.a_5 (Kd.b_r (Kd.b_r (Kd.b_r ho0 (Kd.R_lt (rup_ a_v.out))) (Kd.R_lt (rup_ a_x.out))) (Kd.R_lt (rup_ b_b.out))) (a_p (by repeat (first|(with_reducible first|exact HB.out|apply a_g|apply a_d|apply a_h|refine a_b ?_ a_M.out|refine a_b ?_ a_N.out|refine a_b ?_ a_T.out|refine a_b ?_ a_X.out|refine a_b ?_ b_L.out)|exact HB.out))));replace a_v:=a_a.mk (Kd.a_V (rup_ a_v.out) (Kd.b_n ho0) hb);replace a_x:=a_a.mk (Kd.a_V (rup_ a_x.out) (Kd.b_n ho0) hb);replace b_b:=a_a.mk (Kd.a_V (rup_ b_b.out) (Kd.b_n ho0) hb);replace a_B:=a_a.mk (a_c (bup_ a_B.out) hb);replace a_o:=a_a.mk (a_c (bup_ a_o.out) hb);replace a_C:=a_a.mk (a_c (bup_ a_C.out) hb);replace a_D:=a_a.mk (a_c (bup_ a_D.out) hb);replace a_3:=a_a.mk (a_c (bup_ a_3.out) hb);replace HB:=a_a.mk (a_j (by repeat (first|(with_reducible first|exact HB.out|apply a_g|apply a_d|apply a_h|refine a_b ?_ a_M.out|refine a_b ?_ a_N.out|refine a_b ?_ a_T.out|refine a_b ?_ a_X.out|refine a_b ?_ b_L.out)|exact HB.out)) hb);(try clear hb);(try clear hb2);(try clear hk);(try clear hi);(try clear ho0))|((with_reducible refine a_s (N:=15) rfl ?_);refine a_r ?hg (N:=15) ?hd (cs:=#[.slice none 0 0]) (t:=26) ?hr ?_;(case hd => rfl);(case hg => rfl);(case hr => first|(go_simp;done)|(go_simp;rfl));intro b_f hg w171 hbox hb;have c_K:=a_a.mk (hbox);have g_9:=a_a.mk ((by rw [hg];exact (a_p (by repeat (first|(with_reducible first|exact HB.out|apply a_g|apply a_d|apply a_h|refine a_b ?_ a_M.out|refine a_b ?_ a_N.out|refine a_b ?_ a_T.out|refine a_b ?_ a_X.out|refine a_b ?_ b_L.out)|exact HB.out))) : w.heap.size ≤ b_f));have e_l:=a_a.mk ((by rw [hg];exact (a_p (by repeat (first|(with_reducible first|exact HB.out|apply a_g|apply a_d|apply a_h|refine a_b ?_ a_M.out|refine a_b ?_ a_N.out|refine a_b ?_ a_T.out|refine a_b ?_ a_X.out|refine a_b ?_ b_L.out)|exact HB.out))) : w.heap.size ≤ b_f));have c_b:=a_a.mk ((by rw [hg];exact Nat.ne_of_lt (a_i (bup_ a_B.out)) : b_l ≠ b_f));have c_m:=a_a.mk ((by rw [hg];exact Nat.ne_of_gt (a_i (bup_ a_B.out)) : b_f ≠ b_l));have c_c:=a_a.mk ((by rw [hg];exact Nat.ne_of_lt (a_i (bup_ a_o.out)) : a_y ≠ b_f));have c_n:=a_a.mk ((by rw [hg];exact Nat.ne_of_gt (a_i (bup_ a_o.out)) : b_f ≠ a_y));have c_d:=a_a.mk ((by rw [hg];exact Nat.ne_of_lt (a_i (bup_ a_C.out)) : b_d ≠ b_f));have c_o:=a_a.mk ((by rw [hg];exact Nat.ne_of_gt (a_i (bup_ a_C.out)) : b_f ≠ b_d));have c_e:=a_a.mk ((by rw [hg];exact Nat.ne_of_lt (a_i (bup_ a_D.out)) : a_9 ≠ b_f));have c_p:=a_a.mk ((by rw [hg];exact Nat.ne_of_gt (a_i (bup_ a_D.out)) : b_f ≠ a_9));have c_f:=a_a.mk ((by rw [hg];exact Nat.ne_of_lt (a_i (bup_ a_3.out)) : a_S ≠ b_f));have c_q:=a_a.mk ((by rw [hg];exact Nat.ne_of_gt (a_i (bup_ a_3.out)) : b_f ≠ a_S));replace a_v:=a_a.mk (Kd.a_w (rup_ a_v.out) hb);replace a_x:=a_a.mk (Kd.a_w (rup_ a_x.out) hb);replace b_b:=a_a.mk (Kd.a_w (rup_ b_b.out) hb);replace c_I:=a_a.mk (Kd.a_w (rup_ c_I.out) hb);replace a_B:=a_a.mk (a_c (bup_ a_B.out) hb);replace a_o:=a_a.mk (a_c (bup_ a_o.out) hb);replace a_C:=a_a.mk (a_c (bup_ a_C.out) hb);replace a_D:=a_a.mk (a_c (bup_ a_D.out) hb);replace a_3:=a_a.mk (a_c (bup_ a_3.out) hb);replace HB:=a_a.mk (a_j (by repeat (first|(with_reducible first|exact HB.out|apply a_g|apply a_d|apply a_h|refine a_b ?_ a_M.out|refine a_b ?_ a_N.out|refine a_b ?_ a_T.out|refine a_b ?_ a_X.out|refine a_b ?_ b_L.out)|exact HB.out)) hb);clear hb hbox hg;obtain ⟨t_g,t_h,o_z⟩:=Kd.a_4 c_I.out;subst o_z;have q_P:=c_m.out;have q_Q:=c_b.out;have q_R:=c_n.out;have q_S:=c_c.out;have q_T:=c_o.out;have q_U:=c_d.out;have q_V:=c_p.out;have q_W:=c_e.out;have q_X:=c_q.out;have q_Y:=c_f.out;have m_f : w171.cell? ⟨b_f,0,none⟩ = some (.slice none 0 0):=(a_f c_K.out 0).trans rfl;have m_g:=a_e c_K.out 0;have m_h : w171.cell? ⟨a_y,0,none⟩ = some (.int .i64 a1_0):=(a_f a_o.out 0).trans rfl;have m_i : w171.cell? ⟨a_y,1,none⟩ = some (.int .i64 a1_1):=(a_f a_o.out 1).trans rfl;have m_j : w171.cell? ⟨a_y,2,none⟩ = some (.int .i64 a1_2):=(a_f a_o.out 2).trans rfl;have m_k : w171.cell? ⟨a_y,3,none⟩ = some (.int .i64 a1_3):=(a_f a_o.out 3).trans rfl;have m_l : w171.cell? ⟨a_y,4,none⟩ = some (.int .u32 a1_4):=(a_f a_o.out 4).trans rfl;have m_m:=a_e a_o.out 0;have m_n:=a_e a_o.out 1;have m_o:=a_e a_o.out 2;have m_p:=a_e a_o.out 3;have m_q:=a_e a_o.out 4))
    go_ret
    exact ⟨by first|rfl|(simp [a_J,a_H] <;> rfl)|(simp [*, a_J,a_H] <;> rfl),by repeat (first|(with_reducible first|exact HB.out|apply a_g|apply a_d|apply a_h|refine a_b ?_ a_M.out|refine a_b ?_ a_N.out|refine a_b ?_ a_T.out|refine a_b ?_ a_X.out|refine a_b ?_ b_L.out|refine a_b ?_ e_l.out)|exact HB.out)⟩
   rw [if_pos c118] at H
   have c118b0 : (t505 == a1_2) = true:=beq_iff_eq.mpr c118
   have c118b1 : (t505 != a1_2) = false:=bne_eq_false_iff_eq.mpr c118
   clear c118
   replace H:=Option.bind_eq_some_iff.mp H
   obtain ⟨t508,A1190,H⟩:=H
   replace H : (some t508) = some r:=H
   have A119:=a_a.mk A1190
   clear A1190
   obtain rfl:=Option.some.inj H
   have q_Z:=c_l.out
   have q_0:=b_V.out
   have q_1:=b_M.out
   have q_2:=b_F.out
   have q_3:=b_z.out
   have q_4:=b_X.out
   have m_r : wc.cell? ⟨b_d,0,none⟩ = some (.slice Ao17 t476.length co17):=(a_f a_C.out 0).trans rfl
   have m_s:=a_e a_C.out 0
   have q_5:=b_K.out
   have q_6:=b_J.out
   have q_7:=b_y.out
   have q_8:=b_W.out
   have m_t : wc.cell? ⟨a_y,0,none⟩ = some (.int .i64 a1_0):=(a_f a_o.out 0).trans rfl
   have m_u : wc.cell? ⟨a_y,1,none⟩ = some (.int .i64 a1_1):=(a_f a_o.out 1).trans rfl
   have m_v : wc.cell? ⟨a_y,2,none⟩ = some (.int .i64 a1_2):=(a_f a_o.out 2).trans rfl
   have m_w : wc.cell? ⟨a_y,3,none⟩ = some (.int .i64 a1_3):=(a_f a_o.out 3).trans rfl
   have m_x : wc.cell? ⟨a_y,4,none⟩ = some (.int .u32 a1_4):=(a_f a_o.out 4).trans rfl
   have m_y:=a_e a_o.out 0
   have m_z:=a_e a_o.out 1
   have m_A:=a_e a_o.out 2
   have m_B:=a_e a_o.out 3
   have m_C:=a_e a_o.out 4
   go_wp2_with (first|((with_reducible refine a_z (f:=31) rfl ?_);refine b_h (some 67) rfl rfl Try.func31 (by kernel_rfl) rfl #[.agg #[.slice Ao17 t476.length co17],.int .i64 a1_3,.int .i64 a1_2] rfl (by (try simp only [List.map_toArray,List.map_cons,List.map_nil]);first|done|rfl|(simp only [List.length_drop,List.length_take];rfl)) ?_;(with_reducible refine (a_K.calls kj8 _ _ t476 a1_3 a1_2 t494 t497 t498 _ ?side1 ?side2 A111.out).mono ?_);(case side1 => repeat (first|exact (Kd.a_t a_v.out).2.2|(with_reducible refine Kd.b_a ?_ _)|(with_reducible refine Kd.b_c ?_ _)|(with_reducible refine Kd.b_p ?_)));(case side2 => exact (Kd.a_t a_v.out).2.1);rintro e w127 ⟨v495,rfl,ho0,hb⟩;refine ⟨_,rfl,?_⟩;have b_b:=a_a.mk (Kd.a_5 (Kd.b_r (Kd.b_r ho0 (Kd.R_lt (rup_ a_v.out))) (Kd.R_lt (rup_ a_x.out))) (a_p (by repeat (first|(with_reducible first|exact HB.out|apply a_g|apply a_d|apply a_h|refine a_b ?_ a_M.out|refine a_b ?_ a_N.out|refine a_b ?_ a_T.out|refine a_b ?_ a_X.out)|exact HB.out))));replace a_v:=a_a.mk (Kd.a_V (rup_ a_v.out) (Kd.b_n ho0) hb);replace a_x:=a_a.mk (Kd.a_V (rup_ a_x.out) (Kd.b_n ho0) hb);replace a_B:=a_a.mk (a_c (bup_ a_B.out) hb);replace a_o:=a_a.mk (a_c (bup_ a_o.out) hb);replace a_C:=a_a.mk (a_c (bup_ a_C.out) hb);replace a_D:=a_a.mk (a_c (bup_ a_D.out) hb);replace HB:=a_a.mk (a_j (by repeat (first|(with_reducible first|exact HB.out|apply a_g|apply a_d|apply a_h|refine a_b ?_ a_M.out|refine a_b ?_ a_N.out|refine a_b ?_ a_T.out|refine a_b ?_ a_X.out)|exact HB.out)) hb);(try clear hb);(try clear hb2);(try clear hk);(try clear hi);(try clear ho0))|((with_reducible refine a_s (N:=11) rfl ?_);refine a_r ?hg (N:=11) ?hd (cs:=#[.slice none 0 0]) (t:=26) ?hr ?_;(case hd => rfl);(case hg => rfl);(case hr => first|(go_simp;done)|(go_simp;rfl));intro a_S hg w128 hbox hb;have a_3:=a_a.mk (hbox);have g_v:=a_a.mk ((by rw [hg];exact (a_p (by repeat (first|(with_reducible first|exact HB.out|apply a_g|apply a_d|apply a_h|refine a_b ?_ a_M.out|refine a_b ?_ a_N.out|refine a_b ?_ a_T.out|refine a_b ?_ a_X.out)|exact HB.out))) : w.heap.size ≤ a_S));have b_L:=a_a.mk ((by rw [hg];exact (a_p (by repeat (first|(with_reducible first|exact HB.out|apply a_g|apply a_d|apply a_h|refine a_b ?_ a_M.out|refine a_b ?_ a_N.out|refine a_b ?_ a_T.out|refine a_b ?_ a_X.out)|exact HB.out))) : w.heap.size ≤ a_S));have b_A:=a_a.mk ((by rw [hg];exact Nat.ne_of_lt (a_i (bup_ a_B.out)) : b_l ≠ a_S));have b_2:=a_a.mk ((by rw [hg];exact Nat.ne_of_gt (a_i (bup_ a_B.out)) : a_S ≠ b_l));have b_B:=a_a.mk ((by rw [hg];exact Nat.ne_of_lt (a_i (bup_ a_o.out)) : a_y ≠ a_S));have b_3:=a_a.mk ((by rw [hg];exact Nat.ne_of_gt (a_i (bup_ a_o.out)) : a_S ≠ a_y));have b_C:=a_a.mk ((by rw [hg];exact Nat.ne_of_lt (a_i (bup_ a_C.out)) : b_d ≠ a_S));have b_4:=a_a.mk ((by rw [hg];exact Nat.ne_of_gt (a_i (bup_ a_C.out)) : a_S ≠ b_d));have b_D:=a_a.mk ((by rw [hg];exact Nat.ne_of_lt (a_i (bup_ a_D.out)) : a_9 ≠ a_S));have b_5:=a_a.mk ((by rw [hg];exact Nat.ne_of_gt (a_i (bup_ a_D.out)) : a_S ≠ a_9));replace a_v:=a_a.mk (Kd.a_w (rup_ a_v.out) hb);replace a_x:=a_a.mk (Kd.a_w (rup_ a_x.out) hb);replace b_b:=a_a.mk (Kd.a_w (rup_ b_b.out) hb);replace a_B:=a_a.mk (a_c (bup_ a_B.out) hb);replace a_o:=a_a.mk (a_c (bup_ a_o.out) hb);replace a_C:=a_a.mk (a_c (bup_ a_C.out) hb);replace a_D:=a_a.mk (a_c (bup_ a_D.out) hb);replace HB:=a_a.mk (a_j (by repeat (first|(with_reducible first|exact HB.out|apply a_g|apply a_d|apply a_h|refine a_b ?_ a_M.out|refine a_b ?_ a_N.out|refine a_b ?_ a_T.out|refine a_b ?_ a_X.out)|exact HB.out)) hb);clear hb hbox hg;obtain ⟨e_d,d_S,o_A⟩:=Kd.a_4 b_b.out;subst o_A;have q_9:=b_2.out;have r_a:=b_A.out;have r_b:=b_3.out;have r_c:=b_B.out;have r_d:=b_4.out;have r_e:=b_C.out;have r_f:=b_5.out;have r_g:=b_D.out;have m_D : w128.cell? ⟨a_S,0,none⟩ = some (.slice none 0 0):=(a_f a_3.out 0).trans rfl;have m_E:=a_e a_3.out 0;have m_F : w128.cell? ⟨a_y,0,none⟩ = some (.int .i64 a1_0):=(a_f a_o.out 0).trans rfl;have m_G : w128.cell? ⟨a_y,1,none⟩ = some (.int .i64 a1_1):=(a_f a_o.out 1).trans rfl;have m_H : w128.cell? ⟨a_y,2,none⟩ = some (.int .i64 a1_2):=(a_f a_o.out 2).trans rfl;have m_I : w128.cell? ⟨a_y,3,none⟩ = some (.int .i64 a1_3):=(a_f a_o.out 3).trans rfl;have m_J : w128.cell? ⟨a_y,4,none⟩ = some (.int .u32 a1_4):=(a_f a_o.out 4).trans rfl;have m_K:=a_e a_o.out 0;have m_L:=a_e a_o.out 1;have m_M:=a_e a_o.out 2;have m_N:=a_e a_o.out 3;have m_O:=a_e a_o.out 4)|((with_reducible refine a_z (f:=20) rfl ?_);refine b_h (some 81) rfl rfl Try.func20 (by kernel_rfl) rfl #[.agg #[.slice e_d t494.length d_S],.int .i64 a1_3] rfl (by (try simp only [List.map_toArray,List.map_cons,List.map_nil]);first|done|rfl|(simp only [List.length_drop,List.length_take];rfl)) ?_;(with_reducible refine (b_t.calls kj8 _ _ t494 a1_3 t500 true _ ?side1 ?side2 A113.out).mono ?_);(case side1 => refine (Kd.a_t (e:=31) (base:=w.heap.size) (ok:=fun k_ => ((True ∧ some k_ ≠ (.slice Ao17 t476.length co17 : Value).ownBlock) ∧ some k_ ≠ (.slice Ao26 t481.length co26 : Value).ownBlock)) (n:=t494.length) (c:=d_S) ?_).2.2;exact (by (with_reducible repeat (first|apply Kd.a_F|apply Kd.a_E|apply Kd.a_G));exact (Kd.a_L (Kd.a_7 (p:=⟨a_S,0,none⟩) (Kd.a_I b_b.out a_3.out (by decide)) (fun _ hk => hk.2) (.slice e_d t494.length d_S)) (fun _ h_ => h_.1))));(case side2 => exact (Kd.a_t b_b.out).2.1);rintro e w136 ⟨rfl,hb⟩;refine ⟨_,rfl,?_⟩;replace a_v:=a_a.mk (Kd.a_w (by (with_reducible repeat (first|apply Kd.a_F|apply Kd.a_E|apply Kd.a_G));exact (Kd.a_L (Kd.a_7 (p:=⟨a_S,0,none⟩) (Kd.a_I a_v.out a_3.out (by decide)) (fun _ hk => hk.2) (.slice e_d t494.length d_S)) (fun _ h_ => h_.1))) hb);replace a_x:=a_a.mk (Kd.a_w (by (with_reducible repeat (first|apply Kd.a_F|apply Kd.a_E|apply Kd.a_G));exact (Kd.a_L (Kd.a_7 (p:=⟨a_S,0,none⟩) (Kd.a_I a_x.out a_3.out (by decide)) (fun _ hk => hk.2) (.slice e_d t494.length d_S)) (fun _ h_ => h_.1))) hb);replace b_b:=a_a.mk (Kd.a_w (by (with_reducible repeat (first|apply Kd.a_F|apply Kd.a_E|apply Kd.a_G));exact (Kd.a_L (Kd.a_7 (p:=⟨a_S,0,none⟩) (Kd.a_I b_b.out a_3.out (by decide)) (fun _ hk => hk.2) (.slice e_d t494.length d_S)) (fun _ h_ => h_.1))) hb);replace a_B:=a_a.mk (a_c (g:=b_l) (o:=.cells #[.slice A0_0 l0_0.length c0_0] 26 (0,0)) (by (with_reducible repeat (first|refine a_l ?_ _|refine a_k ?_|refine a_m ?_ _));refine a_u ?_ b_A.out _;(with_reducible repeat (first|refine a_l ?_ _|refine a_k ?_|refine a_m ?_ _));exact a_B.out) hb);replace a_o:=a_a.mk (a_c (g:=a_y) (o:=.cells #[.int .i64 a1_0,.int .i64 a1_1,.int .i64 a1_2,.int .i64 a1_3,.int .u32 a1_4] 36 (0,0)) (by (with_reducible repeat (first|refine a_l ?_ _|refine a_k ?_|refine a_m ?_ _));refine a_u ?_ b_B.out _;(with_reducible repeat (first|refine a_l ?_ _|refine a_k ?_|refine a_m ?_ _));exact a_o.out) hb);replace a_C:=a_a.mk (a_c (g:=b_d) (o:=.cells #[.slice Ao17 t476.length co17] 26 (0,0)) (by (with_reducible repeat (first|refine a_l ?_ _|refine a_k ?_|refine a_m ?_ _));refine a_u ?_ b_C.out _;(with_reducible repeat (first|refine a_l ?_ _|refine a_k ?_|refine a_m ?_ _));exact a_C.out) hb);replace a_D:=a_a.mk (a_c (g:=a_9) (o:=.cells #[.slice Ao26 t481.length co26] 26 (0,0)) (by (with_reducible repeat (first|refine a_l ?_ _|refine a_k ?_|refine a_m ?_ _));refine a_u ?_ b_D.out _;(with_reducible repeat (first|refine a_l ?_ _|refine a_k ?_|refine a_m ?_ _));exact a_D.out) hb);replace a_3:=a_a.mk (a_c (g:=a_S) (o:=.cells #[.slice e_d t494.length d_S] 26 (0,0)) (by (with_reducible repeat (first|refine a_l ?_ _|refine a_k ?_|refine a_m ?_ _));refine a_R (cs:=#[.slice none 0 0]) ?_ 0 _ rfl;(with_reducible repeat (first|refine a_l ?_ _|refine a_k ?_|refine a_m ?_ _));exact a_3.out) hb);replace HB:=a_a.mk (a_j (by repeat (first|(with_reducible first|exact HB.out|apply a_g|apply a_d|apply a_h|refine a_b ?_ a_M.out|refine a_b ?_ a_N.out|refine a_b ?_ a_T.out|refine a_b ?_ a_X.out|refine a_b ?_ b_L.out)|exact HB.out)) hb);(try clear hb);(try clear hb2);(try clear hk);(try clear hi);have m_P : w136.cell? ⟨a_S,0,none⟩ = some (.slice e_d t494.length d_S):=(a_f a_3.out 0).trans rfl;have m_Q:=a_e a_3.out 0;have m_R : w136.cell? ⟨a_y,0,none⟩ = some (.int .i64 a1_0):=(a_f a_o.out 0).trans rfl;have m_S : w136.cell? ⟨a_y,1,none⟩ = some (.int .i64 a1_1):=(a_f a_o.out 1).trans rfl;have m_T : w136.cell? ⟨a_y,2,none⟩ = some (.int .i64 a1_2):=(a_f a_o.out 2).trans rfl;have m_U : w136.cell? ⟨a_y,3,none⟩ = some (.int .i64 a1_3):=(a_f a_o.out 3).trans rfl;have m_V : w136.cell? ⟨a_y,4,none⟩ = some (.int .u32 a1_4):=(a_f a_o.out 4).trans rfl;have m_W:=a_e a_o.out 0;have m_X:=a_e a_o.out 1;have m_Y:=a_e a_o.out 2;have m_Z:=a_e a_o.out 3;have m_0:=a_e a_o.out 4)|((with_reducible refine a_z (f:=31) rfl ?_);refine b_h (some 89) rfl rfl Try.func31 (by kernel_rfl) rfl #[.agg #[.slice e_d t494.length d_S],.int .i64 a1_3,.int .i64 t497] rfl (by (try simp only [List.map_toArray,List.map_cons,List.map_nil]);first|done|rfl|(simp only [List.length_drop,List.length_take];rfl)) ?_;(with_reducible refine (a_K.calls kj8 _ _ t494 a1_3 t497 t502 t505 t506 _ ?side1 ?side2 A114.out).mono ?_);(case side1 => repeat (first|exact (Kd.a_t b_b.out).2.2|(with_reducible refine Kd.b_a ?_ _)|(with_reducible refine Kd.b_c ?_ _)|(with_reducible refine Kd.b_p ?_)));(case side2 => exact (Kd.a_t b_b.out).2.1);rintro e w139 ⟨v503,rfl,ho0,hb⟩;refine ⟨_,rfl,?_⟩;have c_I:=a_a.mk (Kd.a_5 (Kd.b_r (Kd.b_r (Kd.b_r ho0 (Kd.R_lt (rup_ a_v.out))) (Kd.R_lt (rup_ a_x.out))) (Kd.R_lt (rup_ b_b.out))) (a_p (by repeat (first|(with_reducible first|exact HB.out|apply a_g|apply a_d|apply a_h|refine a_b ?_ a_M.out|refine a_b ?_ a_N.out|refine a_b ?_ a_T.out|refine a_b ?_ a_X.out|refine a_b ?_ b_L.out)|exact HB.out))));replace a_v:=a_a.mk (Kd.a_V (rup_ a_v.out) (Kd.b_n ho0) hb);replace a_x:=a_a.mk (Kd.a_V (rup_ a_x.out) (Kd.b_n ho0) hb);replace b_b:=a_a.mk (Kd.a_V (rup_ b_b.out) (Kd.b_n ho0) hb);replace a_B:=a_a.mk (a_c (bup_ a_B.out) hb);replace a_o:=a_a.mk (a_c (bup_ a_o.out) hb);replace a_C:=a_a.mk (a_c (bup_ a_C.out) hb);replace a_D:=a_a.mk (a_c (bup_ a_D.out) hb);replace a_3:=a_a.mk (a_c (bup_ a_3.out) hb);replace HB:=a_a.mk (a_j (by repeat (first|(with_reducible first|exact HB.out|apply a_g|apply a_d|apply a_h|refine a_b ?_ a_M.out|refine a_b ?_ a_N.out|refine a_b ?_ a_T.out|refine a_b ?_ a_X.out|refine a_b ?_ b_L.out)|exact HB.out)) hb);(try clear hb);(try clear hb2);(try clear hk);(try clear hi);(try clear ho0))|((with_reducible refine a_s (N:=15) rfl ?_);refine a_r ?hg (N:=15) ?hd (cs:=#[.slice none 0 0]) (t:=26) ?hr ?_;(case hd => rfl);(case hg => rfl);(case hr => first|(go_simp;done)|(go_simp;rfl));intro b_f hg w140 hbox hb;have c_K:=a_a.mk (hbox);have g_9:=a_a.mk ((by rw [hg];exact (a_p (by repeat (first|(with_reducible first|exact HB.out|apply a_g|apply a_d|apply a_h|refine a_b ?_ a_M.out|refine a_b ?_ a_N.out|refine a_b ?_ a_T.out|refine a_b ?_ a_X.out|refine a_b ?_ b_L.out)|exact HB.out))) : w.heap.size ≤ b_f));have e_l:=a_a.mk ((by rw [hg];exact (a_p (by repeat (first|(with_reducible first|exact HB.out|apply a_g|apply a_d|apply a_h|refine a_b ?_ a_M.out|refine a_b ?_ a_N.out|refine a_b ?_ a_T.out|refine a_b ?_ a_X.out|refine a_b ?_ b_L.out)|exact HB.out))) : w.heap.size ≤ b_f));have c_b:=a_a.mk ((by rw [hg];exact Nat.ne_of_lt (a_i (bup_ a_B.out)) : b_l ≠ b_f));have c_m:=a_a.mk ((by rw [hg];exact Nat.ne_of_gt (a_i (bup_ a_B.out)) : b_f ≠ b_l));have c_c:=a_a.mk ((by rw [hg];exact Nat.ne_of_lt (a_i (bup_ a_o.out)) : a_y ≠ b_f));have c_n:=a_a.mk ((by rw [hg];exact Nat.ne_of_gt (a_i (bup_ a_o.out)) : b_f ≠ a_y));have c_d:=a_a.mk ((by rw [hg];exact Nat.ne_of_lt (a_i (bup_ a_C.out)) : b_d ≠ b_f));have c_o:=a_a.mk ((by rw [hg];exact Nat.ne_of_gt (a_i (bup_ a_C.out)) : b_f ≠ b_d));have c_e:=a_a.mk ((by rw [hg];exact Nat.ne_of_lt (a_i (bup_ a_D.out)) : a_9 ≠ b_f));have c_p:=a_a.mk ((by rw [hg];exact Nat.ne_of_gt (a_i (bup_ a_D.out)) : b_f ≠ a_9));have c_f:=a_a.mk ((by rw [hg];exact Nat.ne_of_lt (a_i (bup_ a_3.out)) : a_S ≠ b_f));have c_q:=a_a.mk ((by rw [hg];exact Nat.ne_of_gt (a_i (bup_ a_3.out)) : b_f ≠ a_S));replace a_v:=a_a.mk (Kd.a_w (rup_ a_v.out) hb);replace a_x:=a_a.mk (Kd.a_w (rup_ a_x.out) hb);replace b_b:=a_a.mk (Kd.a_w (rup_ b_b.out) hb);replace c_I:=a_a.mk (Kd.a_w (rup_ c_I.out) hb);replace a_B:=a_a.mk (a_c (bup_ a_B.out) hb);replace a_o:=a_a.mk (a_c (bup_ a_o.out) hb);replace a_C:=a_a.mk (a_c (bup_ a_C.out) hb);replace a_D:=a_a.mk (a_c (bup_ a_D.out) hb);replace a_3:=a_a.mk (a_c (bup_ a_3.out) hb);replace HB:=a_a.mk (a_j (by repeat (first|(with_reducible first|exact HB.out|apply a_g|apply a_d|apply a_h|refine a_b ?_ a_M.out|refine a_b ?_ a_N.out|refine a_b ?_ a_T.out|refine a_b ?_ a_X.out|refine a_b ?_ b_L.out)|exact HB.out)) hb);clear hb hbox hg;obtain ⟨e_5,e_I,o_B⟩:=Kd.a_4 c_I.out;subst o_B;have r_h:=c_m.out;have r_i:=c_b.out;have r_j:=c_n.out;have r_k:=c_c.out;have r_l:=c_o.out;have r_m:=c_d.out;have r_n:=c_p.out;have r_o:=c_e.out;have r_p:=c_q.out;have r_q:=c_f.out;have m_1 : w140.cell? ⟨b_f,0,none⟩ = some (.slice none 0 0):=(a_f c_K.out 0).trans rfl;have m_2:=a_e c_K.out 0;have m_3 : w140.cell? ⟨a_y,0,none⟩ = some (.int .i64 a1_0):=(a_f a_o.out 0).trans rfl;have m_4 : w140.cell? ⟨a_y,1,none⟩ = some (.int .i64 a1_1):=(a_f a_o.out 1).trans rfl;have m_5 : w140.cell? ⟨a_y,2,none⟩ = some (.int .i64 a1_2):=(a_f a_o.out 2).trans rfl;have m_6 : w140.cell? ⟨a_y,3,none⟩ = some (.int .i64 a1_3):=(a_f a_o.out 3).trans rfl;have m_7 : w140.cell? ⟨a_y,4,none⟩ = some (.int .u32 a1_4):=(a_f a_o.out 4).trans rfl;have m_8:=a_e a_o.out 0;have m_9:=a_e a_o.out 1;have n_a:=a_e a_o.out 2;have n_b:=a_e a_o.out 3;have n_c:=a_e a_o.out 4;have n_d : w140.cell? ⟨b_d,0,none⟩ = some (.slice Ao17 t476.length co17):=(a_f a_C.out 0).trans rfl;have n_e:=a_e a_C.out 0)|(go_at_call 18;(with_reducible refine (a_1.calls kj8 _ _ t502 _ _ t476 t508 _ ?side1 ?side2 ?side3 ?side4 A119.out).mono ?_);(case side1 => refine (Kd.a_t (e:=31) (base:=w.heap.size) (ok:=fun k_ => (((True ∧ some k_ ≠ (.slice Ao17 t476.length co17 : Value).ownBlock) ∧ some k_ ≠ (.slice Ao26 t481.length co26 : Value).ownBlock) ∧ some k_ ≠ (.slice e_d t494.length d_S : Value).ownBlock)) (n:=t502.length) (c:=e_I) ?_).2.2;exact (by (with_reducible repeat (first|apply Kd.a_F|apply Kd.a_E|apply Kd.a_G));exact (Kd.a_L (Kd.a_7 (p:=⟨b_f,0,none⟩) (Kd.a_I c_I.out c_K.out (by decide)) (fun _ hk => hk.2) (.slice e_5 t502.length e_I)) (fun _ h_ => h_.1))));(case side2 => exact (Kd.a_t c_I.out).2.1);(case side3 => refine (Kd.a_t (e:=31) (base:=w.heap.size) (ok:=fun k_ => ((some k_ ≠ (.slice Ao26 t481.length co26 : Value).ownBlock ∧ some k_ ≠ (.slice e_d t494.length d_S : Value).ownBlock) ∧ some k_ ≠ (.slice e_5 t502.length e_I : Value).ownBlock)) (n:=t476.length) (c:=co17) ?_).2.2;exact (by (with_reducible repeat (first|apply Kd.a_F|apply Kd.a_E|apply Kd.a_G));exact (Kd.a_L (Kd.a_7 (p:=⟨b_f,0,none⟩) (Kd.a_I a_v.out c_K.out (by decide)) (fun _ hk => hk.2) (.slice e_5 t502.length e_I)) (fun _ h_ => h_.1))));(case side4 => exact (Kd.a_t a_v.out).2.1);rintro e w150 ⟨rfl,hb⟩;replace a_v:=a_a.mk (Kd.a_w (by (with_reducible repeat (first|apply Kd.a_F|apply Kd.a_E|apply Kd.a_G));exact (Kd.a_L (Kd.a_7 (p:=⟨b_f,0,none⟩) (Kd.a_I a_v.out c_K.out (by decide)) (fun _ hk => hk.2) (.slice e_5 t502.length e_I)) (fun _ h_ => h_.1))) hb);replace a_x:=a_a.mk (Kd.a_w (by (with_reducible repeat (first|apply Kd.a_F|apply Kd.a_E|apply Kd.a_G));exact (Kd.a_L (Kd.a_7 (p:=⟨b_f,0,none⟩) (Kd.a_I a_x.out c_K.out (by decide)) (fun _ hk => hk.2) (.slice e_5 t502.length e_I)) (fun _ h_ => h_.1))) hb);replace b_b:=a_a.mk (Kd.a_w (by (with_reducible repeat (first|apply Kd.a_F|apply Kd.a_E|apply Kd.a_G));exact (Kd.a_L (Kd.a_7 (p:=⟨b_f,0,none⟩) (Kd.a_I b_b.out c_K.out (by decide)) (fun _ hk => hk.2) (.slice e_5 t502.length e_I)) (fun _ h_ => h_.1))) hb);replace c_I:=a_a.mk (Kd.a_w (by (with_reducible repeat (first|apply Kd.a_F|apply Kd.a_E|apply Kd.a_G));exact (Kd.a_L (Kd.a_7 (p:=⟨b_f,0,none⟩) (Kd.a_I c_I.out c_K.out (by decide)) (fun _ hk => hk.2) (.slice e_5 t502.length e_I)) (fun _ h_ => h_.1))) hb);replace a_B:=a_a.mk (a_c (g:=b_l) (o:=.cells #[.slice A0_0 l0_0.length c0_0] 26 (0,0)) (by (with_reducible repeat (first|refine a_l ?_ _|refine a_k ?_|refine a_m ?_ _));refine a_u ?_ c_b.out _;(with_reducible repeat (first|refine a_l ?_ _|refine a_k ?_|refine a_m ?_ _));exact a_B.out) hb);replace a_o:=a_a.mk (a_c (g:=a_y) (o:=.cells #[.int .i64 a1_0,.int .i64 a1_1,.int .i64 a1_2,.int .i64 a1_3,.int .u32 a1_4] 36 (0,0)) (by (with_reducible repeat (first|refine a_l ?_ _|refine a_k ?_|refine a_m ?_ _));refine a_u ?_ c_c.out _;(with_reducible repeat (first|refine a_l ?_ _|refine a_k ?_|refine a_m ?_ _));exact a_o.out) hb);replace a_C:=a_a.mk (a_c (g:=b_d) (o:=.cells #[.slice Ao17 t476.length co17] 26 (0,0)) (by (with_reducible repeat (first|refine a_l ?_ _|refine a_k ?_|refine a_m ?_ _));refine a_u ?_ c_d.out _;(with_reducible repeat (first|refine a_l ?_ _|refine a_k ?_|refine a_m ?_ _));exact a_C.out) hb);replace a_D:=a_a.mk (a_c (g:=a_9) (o:=.cells #[.slice Ao26 t481.length co26] 26 (0,0)) (by (with_reducible repeat (first|refine a_l ?_ _|refine a_k ?_|refine a_m ?_ _));refine a_u ?_ c_e.out _;(with_reducible repeat (first|refine a_l ?_ _|refine a_k ?_|refine a_m ?_ _));exact a_D.out) hb);replace a_3:=a_a.mk (a_c (g:=a_S) (o:=.cells #[.slice e_d t494.length d_S] 26 (0,0)) (by (with_reducible repeat (first|refine a_l ?_ _|refine a_k ?_|refine a_m ?_ _));refine a_u ?_ c_f.out _;(with_reducible repeat (first|refine a_l ?_ _|refine a_k ?_|refine a_m ?_ _));exact a_3.out) hb);replace c_K:=a_a.mk (a_c (g:=b_f) (o:=.cells #[.slice e_5 t502.length e_I] 26 (0,0)) (by (with_reducible repeat (first|refine a_l ?_ _|refine a_k ?_|refine a_m ?_ _));refine a_R (cs:=#[.slice none 0 0]) ?_ 0 _ rfl;(with_reducible repeat (first|refine a_l ?_ _|refine a_k ?_|refine a_m ?_ _));exact c_K.out) hb);replace HB:=a_a.mk (a_j (by repeat (first|(with_reducible first|exact HB.out|apply a_g|apply a_d|apply a_h|refine a_b ?_ a_M.out|refine a_b ?_ a_N.out|refine a_b ?_ a_T.out|refine a_b ?_ a_X.out|refine a_b ?_ b_L.out|refine a_b ?_ e_l.out)|exact HB.out)) hb);(try clear hb);(try clear hb2);(try clear hk);(try clear hi)))
   go_ret
   exact ⟨by first|rfl|(simp [a_J,a_H] <;> rfl)|(simp [*, a_J,a_H] <;> rfl),by repeat (first|(with_reducible first|exact HB.out|apply a_g|apply a_d|apply a_h|refine a_b ?_ a_M.out|refine a_b ?_ a_N.out|refine a_b ?_ a_T.out|refine a_b ?_ a_X.out|refine a_b ?_ b_L.out|refine a_b ?_ e_l.out)|exact HB.out)⟩
end Go.Proofs.Ytkhbffjfclepfaa.Q
end
