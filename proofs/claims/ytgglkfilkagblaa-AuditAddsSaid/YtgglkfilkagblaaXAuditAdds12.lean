/- Part 13 of 14 of what the row of AuditAdds stands on: contracts over the given program's functions, the plain law, the row; no condition beyond those that each theorem states. -/
import Derived.Test.YtgglkfilkagblaaXAuditAdds11
section
namespace Go.Proofs.Ytgglkfilkagblaa.Q
open Go.RowKit Go.Proofs.YtgglkfilkagblaaW.PrintWords Go.Proofs.YtgglkfilkagblaaW.PrintLast Go.Proofs.YtgglkfilkagblaaW.PrintMore
set_option linter.unusedVariables false
set_option linter.unusedSimpArgs false
mutual
def a_u.j0 : Nat → Int → Bool → List (S27) → Int → Int → List (S65) → Option (Bool)
 | 0,_,_,_,_,_,_ => none
 | k + 1,x2,x24,x248000,x248001,x249000,x249001 => if x24 = true then (some true) else ((a_C.f k x248000 x248001).bind fun bt251 => ((a_Y.f k bt251.1 bt251.2 x249000 x249001).bind fun bt256 => ((b_J.f k bt251.1 bt251.2 x2).bind fun bt262 => ((a_v.f k x248000 x248001 x249000 x249001).bind fun bt268 => (if bt256.2.2 = bt268.2.2 then ((a_z.f k bt256.1 bt256.2.1 bt268.1 bt268.2.1).bind fun t274 => (if t274 = true then ((a_z.f k bt251.1 bt251.2 x248000 x248001).bind fun t275 => (a_u.j1 k x2 bt262.2.2 (!t275) x248000 x248001 bt251.1 bt251.2 bt262.1 bt262.2.1)) else (a_u.j1 k x2 bt262.2.2 true x248000 x248001 bt251.1 bt251.2 bt262.1 bt262.2.1))) else (a_u.j1 k x2 bt262.2.2 true x248000 x248001 bt251.1 bt251.2 bt262.1 bt262.2.1))))))
def a_u.j1 : Nat → Int → Int → Bool → List (S27) → Int → List (S27) → Int → List (S27) → Int → Option (Bool)
 | 0,_,_,_,_,_,_,_,_,_ => none
 | k + 1,x2,x11,x59,x248000,x248001,x256000,x256001,x268000,x268001 => if x59 = true then (some false) else ((a_A.f k x256000 x256001).bind fun t276 => ((a_q.f k x248000 x248001).bind fun t277 => (if t277 = true then (if x2 < x248001 then (if t276 = 0 then (if x11 = 2 then (some ((x268000.length : Int) == 0)) else (some false)) else (some false)) else (if x2 > 1125899906842624 then (if t276 = 0 then (if x11 = 2 then (some ((x268000.length : Int) == 0)) else (some false)) else (some false)) else (if t276 = 0 then (if x11 = 0 then ((a_z.f k x268000 x268001 x248000 x2).bind fun t278 => (some t278)) else (some false)) else (some false)))) else (if t276 = 390 then (if x11 = 390 then (some ((x268000.length : Int) == 0)) else (some false)) else (some false)))))
end
def a_u.f (k : Nat) (l0_0 : List (S27)) (a0_1 : Int) (a1_0 : Int) (l1_1 : List (S65)) (a2 : Int) : Option (Bool):=(a_4.f k).bind fun t249 => (if t249 = true then ((a_K.f k l0_0 a0_1).bind fun t250 => (if t250 = true then (a_u.j0 k a2 true l0_0 a0_1 a1_0 l1_1) else (a_u.j0 k a2 (decide ((l1_1.length : Int) > 30)) l0_0 a0_1 a1_0 l1_1))) else (some false))
theorem a_u.c_N : ∀ k,(∀ y0 y1 y2 y3 y4 y5,LeO (a_u.j0 k y0 y1 y2 y3 y4 y5) (a_u.j0 (k + 1) y0 y1 y2 y3 y4 y5)) ∧ (∀ y0 y1 y2 y3 y4 y5 y6 y7 y8,LeO (a_u.j1 k y0 y1 y2 y3 y4 y5 y6 y7 y8) (a_u.j1 (k + 1) y0 y1 y2 y3 y4 y5 y6 y7 y8))
 | 0 => ⟨fun _ _ _ _ _ _ r h => by simp [a_u.j0] at h,fun _ _ _ _ _ _ _ _ _ r h => by simp [a_u.j1] at h⟩
 | k + 1 => by
  obtain ⟨ih0,ih1⟩:=a_u.c_N k
  refine ⟨?_,?_⟩
  ·intro y0 y1 y2 y3 y4 y5
   unfold a_u.j0
   repeat' first
   | (with_reducible exact ih0 _ _ _ _ _ _)
   | (with_reducible exact ih1 _ _ _ _ _ _ _ _ _)
   | (with_reducible exact a_Y.mono _ _ _ _ _)
   | (with_reducible exact a_A.mono _ _ _)
   | (with_reducible exact b_J.mono _ _ _ _)
   | (with_reducible exact a_C.mono _ _ _)
   | (with_reducible exact a_K.mono _ _ _)
   | (with_reducible exact a_4.mono _)
   | (with_reducible exact a_v.mono _ _ _ _ _)
   | (with_reducible exact a_q.mono _ _ _)
   | (with_reducible exact a_z.mono _ _ _ _ _)
   | (with_reducible exact LeO.refl _)
   | (with_reducible exact LeO.none _)
   | (with_reducible refine LeO.ite ?_ ?_)
   | (with_reducible refine LeO.bind ?_ (fun _ => ?_))
   | exact ih0 _ _ _ _ _ _
   | exact ih1 _ _ _ _ _ _ _ _ _
   | exact a_Y.mono _ _ _ _ _
   | exact a_A.mono _ _ _
   | exact b_J.mono _ _ _ _
   | exact a_C.mono _ _ _
   | exact a_K.mono _ _ _
   | exact a_4.mono _
   | exact a_v.mono _ _ _ _ _
   | exact a_q.mono _ _ _
   | exact a_z.mono _ _ _ _ _
   | exact LeO.none _
   | refine LeO.ite ?_ ?_
   | refine LeO.bind ?_ (fun _ => ?_)
  ·intro y0 y1 y2 y3 y4 y5 y6 y7 y8
   unfold a_u.j1
   repeat' first
   | (with_reducible exact ih0 _ _ _ _ _ _)
   | (with_reducible exact ih1 _ _ _ _ _ _ _ _ _)
   | (with_reducible exact a_Y.mono _ _ _ _ _)
   | (with_reducible exact a_A.mono _ _ _)
   | (with_reducible exact b_J.mono _ _ _ _)
   | (with_reducible exact a_C.mono _ _ _)
   | (with_reducible exact a_K.mono _ _ _)
   | (with_reducible exact a_4.mono _)
   | (with_reducible exact a_v.mono _ _ _ _ _)
   | (with_reducible exact a_q.mono _ _ _)
   | (with_reducible exact a_z.mono _ _ _ _ _)
   | (with_reducible exact LeO.refl _)
   | (with_reducible exact LeO.none _)
   | (with_reducible refine LeO.ite ?_ ?_)
   | (with_reducible refine LeO.bind ?_ (fun _ => ?_))
   | exact ih0 _ _ _ _ _ _
   | exact ih1 _ _ _ _ _ _ _ _ _
   | exact a_Y.mono _ _ _ _ _
   | exact a_A.mono _ _ _
   | exact b_J.mono _ _ _ _
   | exact a_C.mono _ _ _
   | exact a_K.mono _ _ _
   | exact a_4.mono _
   | exact a_v.mono _ _ _ _ _
   | exact a_q.mono _ _ _
   | exact a_z.mono _ _ _ _ _
   | exact LeO.none _
   | refine LeO.ite ?_ ?_
   | refine LeO.bind ?_ (fun _ => ?_)
theorem a_u.mono : ∀ a0 a1 a2 a3 a4 k,LeO (a_u.f k a0 a1 a2 a3 a4) (a_u.f (k + 1) a0 a1 a2 a3 a4):=by
 intro a0 a1 a2 a3 a4 k
 obtain ⟨ih0,ih1⟩:=a_u.c_N k
 unfold a_u.f
 repeat' first
  | (with_reducible exact ih0 _ _ _ _ _ _)
  | (with_reducible exact ih1 _ _ _ _ _ _ _ _ _)
  | (with_reducible exact a_Y.mono _ _ _ _ _)
  | (with_reducible exact a_A.mono _ _ _)
  | (with_reducible exact b_J.mono _ _ _ _)
  | (with_reducible exact a_C.mono _ _ _)
  | (with_reducible exact a_K.mono _ _ _)
  | (with_reducible exact a_4.mono _)
  | (with_reducible exact a_v.mono _ _ _ _ _)
  | (with_reducible exact a_q.mono _ _ _)
  | (with_reducible exact a_z.mono _ _ _ _ _)
  | (with_reducible exact LeO.refl _)
  | (with_reducible exact LeO.none _)
  | (with_reducible refine LeO.ite ?_ ?_)
  | (with_reducible refine LeO.bind ?_ (fun _ => ?_))
  | exact ih0 _ _ _ _ _ _
  | exact ih1 _ _ _ _ _ _ _ _ _
  | exact a_Y.mono _ _ _ _ _
  | exact a_A.mono _ _ _
  | exact b_J.mono _ _ _ _
  | exact a_C.mono _ _ _
  | exact a_K.mono _ _ _
  | exact a_4.mono _
  | exact a_v.mono _ _ _ _ _
  | exact a_q.mono _ _ _
  | exact a_z.mono _ _ _ _ _
  | exact LeO.none _
  | refine LeO.ite ?_ ?_
  | refine LeO.bind ?_ (fun _ => ?_)
set_option maxHeartbeats 8000000 in
set_option maxRecDepth 100000 in
theorem a_u.calls (k : Nat) (A0_0 : Option Addr) (c0_0 : Nat) (l0_0 : List (S27)) (a0_1 : Int) (a1_0 : Int) (A1_1 : Option Addr) (c1_1 : Nat) (l1_1 : List (S65)) (a2 : Int) (r : Bool) (w : World) (hr0_0 : Kd.C k27 w A0_0 l0_0.length l0_0) (hc0_0 : l0_0.length ≤ c0_0) (hr1_1 : Kd.C k65 w A1_1 l1_1.length l1_1) (hc1_1 : l1_1.length ≤ c1_1) (h : a_u.f k l0_0 a0_1 a1_0 l1_1 a2 = some r) :
 Calls Try.prog 3 #[.agg #[.slice A0_0 l0_0.length c0_0,.int .i64 a0_1],.agg #[.int .i64 a1_0,.slice A1_1 l1_1.length c1_1],.int .i64 a2] w fun e w' => e = .returned (.bool r) ∧ Below w.heap.size w w':=by
 have hu24:=Try.underlying24
 have hu27:=Try.underlying27
 have c_V:=a_e.mk hr0_0
 have f_w:=a_e.mk hc0_0
 clear hr0_0 hc0_0
 have w_K:=a_e.mk hr1_1
 have w_L:=a_e.mk hc1_1
 clear hr1_1 hc1_1
 have HB:=a_e.mk (Below.refl w.heap.size w)
 have H : ((a_4.f k).bind fun t249 => (if t249 = true then ((a_K.f k l0_0 a0_1).bind fun t250 => (if t250 = true then (a_u.j0 k a2 true l0_0 a0_1 a1_0 l1_1) else (a_u.j0 k a2 (decide ((l1_1.length : Int) > 30)) l0_0 a0_1 a1_0 l1_1))) else (some false))) = some r:=h
 clear h
 replace H:=Option.bind_eq_some_iff.mp H
 obtain ⟨t249,A40,H⟩:=H
 replace H : (if t249 = true then ((a_K.f k l0_0 a0_1).bind fun t250 => (if t250 = true then (a_u.j0 k a2 true l0_0 a0_1 a1_0 l1_1) else (a_u.j0 k a2 (decide ((l1_1.length : Int) > 30)) l0_0 a0_1 a1_0 l1_1))) else (some false)) = some r:=H
 have A4:=a_e.mk A40
 clear A40
 by_cases c5 : t249 = true
 rotate_left
 ·replace c5:=Bool.eq_false_iff.mpr c5
  subst c5
  have H1 : (some false) = some r:=by rw [if_neg (show ¬ (false = true) by decide)] at H;exact H
  clear H
  have H:=H1
  clear H1
  obtain rfl:=Option.some.inj H
  go_enter Try.func3,Try.ntmps3
  go_wp2_with (first|((with_reducible refine a_U (N:=3) rfl ?_);(try (refine c_P (by rfl) ?_;dsimp only));refine a_H ?hg (N:=3) ?hd (cs:=#[.slice A0_0 l0_0.length c0_0,.int .i64 a0_1]) (t:=24) ?hr ?_;(case hd => rfl);(case hg => rfl);(case hr => first|(go_simp;done)|(go_simp;rfl));intro b_D hg w298 hbox hb;have a_0:=a_e.mk (hbox);have r_E:=a_e.mk ((by rw [hg];exact (a_p (lup_ HB.out)) : w.heap.size ≤ b_D));have b_W:=a_e.mk ((by rw [hg];exact (a_p (lup_ HB.out)) : w.heap.size ≤ b_D));replace HB:=a_e.mk (a_t (lup_ HB.out) hb);clear hb hbox hg)|((with_reducible refine a_U (N:=4) rfl ?_);(try (refine c_P (by rfl) ?_;dsimp only));refine a_H ?hg (N:=4) ?hd (cs:=#[.int .i64 a1_0,.slice A1_1 l1_1.length c1_1]) (t:=27) ?hr ?_;(case hd => rfl);(case hg => rfl);(case hr => first|(go_simp;done)|(go_simp;rfl));intro c_T hg w299 hbox hb;have b_p:=a_e.mk (hbox);have r_F:=a_e.mk ((by rw [hg];exact (a_p (by repeat (first|(with_reducible first|exact HB.out|apply a_g|apply a_f|apply a_h|refine a_d ?_ b_W.out)|exact HB.out))) : w.heap.size ≤ c_T));have b_2:=a_e.mk ((by rw [hg];exact (a_p (by repeat (first|(with_reducible first|exact HB.out|apply a_g|apply a_f|apply a_h|refine a_d ?_ b_W.out)|exact HB.out))) : w.heap.size ≤ c_T));have c_X:=a_e.mk ((by rw [hg];exact Nat.ne_of_lt (a_N (bup_ a_0.out)) : b_D ≠ c_T));have c_Y:=a_e.mk ((by rw [hg];exact Nat.ne_of_gt (a_N (bup_ a_0.out)) : c_T ≠ b_D));replace a_0:=a_e.mk (a_l (bup_ a_0.out) hb);replace HB:=a_e.mk (a_t (by repeat (first|(with_reducible first|exact HB.out|apply a_g|apply a_f|apply a_h|refine a_d ?_ b_W.out)|exact HB.out)) hb);clear hb hbox hg)|((with_reducible refine a_P (f:=7) rfl ?_);refine b_v (some 15) rfl rfl Try.func7 (by kernel_rfl) rfl #[] rfl (by (try simp only [List.map_toArray,List.map_cons,List.map_nil]);first|done|rfl|(simp only [List.length_drop,List.length_take];rfl)) ?_;(with_reducible refine (a_4.calls k  false _ A4.out).mono ?_);rintro e w300 ⟨rfl,hb⟩;refine ⟨_,rfl,?_⟩;replace a_0:=a_e.mk (a_l (bup_ a_0.out) hb);replace b_p:=a_e.mk (a_l (bup_ b_p.out) hb);replace HB:=a_e.mk (a_t (by repeat (first|(with_reducible first|exact HB.out|apply a_g|apply a_f|apply a_h|refine a_d ?_ b_W.out|refine a_d ?_ b_2.out)|exact HB.out)) hb);(try clear hb);(try clear hb2);(try clear hk);(try clear hi)))
  go_ret
  exact ⟨by first|rfl|(simp [a_w,a_x] <;> rfl)|(simp [*, a_w,a_x] <;> rfl),by repeat (first|(with_reducible first|exact HB.out|apply a_g|apply a_f|apply a_h|refine a_d ?_ b_W.out|refine a_d ?_ b_2.out)|exact HB.out)⟩
 subst c5
 have H1 : ((a_K.f k l0_0 a0_1).bind fun t250 => (if t250 = true then (a_u.j0 k a2 true l0_0 a0_1 a1_0 l1_1) else (a_u.j0 k a2 (decide ((l1_1.length : Int) > 30)) l0_0 a0_1 a1_0 l1_1))) = some r:=by rw [if_pos rfl] at H;exact H
 clear H
 have H:=H1
 clear H1
 have HC6:=a_e.mk H
 clear H
 go_enter Try.func3,Try.ntmps3
 go_upto_region 3 with (first|((with_reducible refine a_U (N:=3) rfl ?_);(try (refine c_P (by rfl) ?_;dsimp only));refine a_H ?hg (N:=3) ?hd (cs:=#[.slice A0_0 l0_0.length c0_0,.int .i64 a0_1]) (t:=24) ?hr ?_;(case hd => rfl);(case hg => rfl);(case hr => first|(go_simp;done)|(go_simp;rfl));intro b_D hg w7 hbox hb;have a_0:=a_e.mk (hbox);have r_E:=a_e.mk ((by rw [hg];exact (a_p (lup_ HB.out)) : w.heap.size ≤ b_D));have b_W:=a_e.mk ((by rw [hg];exact (a_p (lup_ HB.out)) : w.heap.size ≤ b_D));replace HB:=a_e.mk (a_t (lup_ HB.out) hb);clear hb hbox hg)|((with_reducible refine a_U (N:=4) rfl ?_);(try (refine c_P (by rfl) ?_;dsimp only));refine a_H ?hg (N:=4) ?hd (cs:=#[.int .i64 a1_0,.slice A1_1 l1_1.length c1_1]) (t:=27) ?hr ?_;(case hd => rfl);(case hg => rfl);(case hr => first|(go_simp;done)|(go_simp;rfl));intro c_T hg w8 hbox hb;have b_p:=a_e.mk (hbox);have r_F:=a_e.mk ((by rw [hg];exact (a_p (by repeat (first|(with_reducible first|exact HB.out|apply a_g|apply a_f|apply a_h|refine a_d ?_ b_W.out)|exact HB.out))) : w.heap.size ≤ c_T));have b_2:=a_e.mk ((by rw [hg];exact (a_p (by repeat (first|(with_reducible first|exact HB.out|apply a_g|apply a_f|apply a_h|refine a_d ?_ b_W.out)|exact HB.out))) : w.heap.size ≤ c_T));have c_X:=a_e.mk ((by rw [hg];exact Nat.ne_of_lt (a_N (bup_ a_0.out)) : b_D ≠ c_T));have c_Y:=a_e.mk ((by rw [hg];exact Nat.ne_of_gt (a_N (bup_ a_0.out)) : c_T ≠ b_D));replace a_0:=a_e.mk (a_l (bup_ a_0.out) hb);replace HB:=a_e.mk (a_t (by repeat (first|(with_reducible first|exact HB.out|apply a_g|apply a_f|apply a_h|refine a_d ?_ b_W.out)|exact HB.out)) hb);clear hb hbox hg)|((with_reducible refine a_P (f:=7) rfl ?_);refine b_v (some 15) rfl rfl Try.func7 (by kernel_rfl) rfl #[] rfl (by (try simp only [List.map_toArray,List.map_cons,List.map_nil]);first|done|rfl|(simp only [List.length_drop,List.length_take];rfl)) ?_;(with_reducible refine (a_4.calls k  true _ A4.out).mono ?_);rintro e w9 ⟨rfl,hb⟩;refine ⟨_,rfl,?_⟩;replace a_0:=a_e.mk (a_l (bup_ a_0.out) hb);replace b_p:=a_e.mk (a_l (bup_ b_p.out) hb);replace HB:=a_e.mk (a_t (by repeat (first|(with_reducible first|exact HB.out|apply a_g|apply a_f|apply a_h|refine a_d ?_ b_W.out|refine a_d ?_ b_2.out)|exact HB.out)) hb);(try clear hb);(try clear hb2);(try clear hk);(try clear hi)))
 (try simp only [Act.put,sa_,sb_,sc_])
 go_cut [24] (fun v24 wc => ∃ (kq : Nat) (x24_5 : Bool),v24 = .bool x24_5 ∧ a_e (a_u.j0 kq a2 x24_5 l0_0 a0_1 a1_0 l1_1 = some r) ∧ a_e (kq ≤ k) ∧ a_e (wc.heap[b_D]? = some (.cells #[(.slice A0_0 l0_0.length c0_0),.int .i64 a0_1] 24 (0,0))) ∧ a_e (wc.heap[c_T]? = some (.cells #[.int .i64 a1_0,(.slice A1_1 l1_1.length c1_1)] 27 (0,0))) ∧ a_e (Below w.heap.size w wc))
 case first =>
  have H:=HC6.out
  clear HC6
  replace H:=Option.bind_eq_some_iff.mp H
  obtain ⟨t250,A100,H⟩:=H
  replace H : (if t250 = true then (a_u.j0 k a2 true l0_0 a0_1 a1_0 l1_1) else (a_u.j0 k a2 (decide ((l1_1.length : Int) > 30)) l0_0 a0_1 a1_0 l1_1)) = some r:=H
  have A10:=a_e.mk A100
  clear A100
  by_cases c11 : t250 = true
  ·subst c11
   have H1 : (a_u.j0 k a2 true l0_0 a0_1 a1_0 l1_1) = some r:=by rw [if_pos rfl] at H;exact H
   clear H
   have H:=H1
   clear H1
   have H':=a_e.mk H
   clear H
   have t_s:=c_X.out
   have t_t:=c_Y.out
   have g_d : w9.cell? ⟨b_D,0,none⟩ = some (.slice A0_0 l0_0.length c0_0):=(a_a a_0.out 0).trans rfl
   have g_e : w9.cell? ⟨b_D,1,none⟩ = some (.int .i64 a0_1):=(a_a a_0.out 1).trans rfl
   have g_f:=a_b a_0.out 0
   have g_g:=a_b a_0.out 1
   go_wp2_with (first|((with_reducible refine a_P (f:=8) rfl ?_);refine b_v (some 18) rfl rfl Try.func8 (by kernel_rfl) rfl #[.agg #[.slice A0_0 l0_0.length c0_0,.int .i64 a0_1]] rfl (by (try simp only [List.map_toArray,List.map_cons,List.map_nil]);first|done|rfl|(simp only [List.length_drop,List.length_take];rfl)) ?_;(with_reducible refine (a_K.calls k _ _ l0_0 a0_1 true _ ?side1 ?side2 A10.out).mono ?_);(case side1 => repeat (first|exact (Kd.b_f c_V.out HB.out)|(with_reducible refine Kd.a_9 ?_ _)|(with_reducible refine Kd.a_8 ?_ _)|(with_reducible refine Kd.b_i ?_)));(case side2 => exact f_w.out);rintro e w14 ⟨rfl,hb⟩;refine ⟨_,rfl,?_⟩;replace a_0:=a_e.mk (a_l (bup_ a_0.out) hb);replace b_p:=a_e.mk (a_l (bup_ b_p.out) hb);replace HB:=a_e.mk (a_t (by repeat (first|(with_reducible first|exact HB.out|apply a_g|apply a_f|apply a_h|refine a_d ?_ b_W.out|refine a_d ?_ b_2.out)|exact HB.out)) hb);(try clear hb);(try clear hb2);(try clear hk);(try clear hi)))
   go_meet
   case rel => exact ⟨_,(true),(by first|rfl|(simp;done)|(simp [*];done)),H',⟨by first|omega|exact Nat.le_refl _⟩,⟨by (with_reducible repeat (first|refine a_j ?_ _|refine a_k ?_|refine a_i ?_ _));exact a_0.out⟩,⟨by (with_reducible repeat (first|refine a_j ?_ _|refine a_k ?_|refine a_i ?_ _));exact b_p.out⟩,⟨by repeat (first|(with_reducible first|exact HB.out|apply a_g|apply a_f|apply a_h|refine a_d ?_ b_W.out|refine a_d ?_ b_2.out)|exact HB.out)⟩⟩
  replace c11:=Bool.eq_false_iff.mpr c11
  subst c11
  have H1 : (a_u.j0 k a2 (decide ((l1_1.length : Int) > 30)) l0_0 a0_1 a1_0 l1_1) = some r:=by rw [if_neg (show ¬ (false = true) by decide)] at H;exact H
  clear H
  have H:=H1
  clear H1
  have H':=a_e.mk H
  clear H
  have r_p:=c_X.out
  have r_q:=c_Y.out
  have h_d : w9.cell? ⟨b_D,0,none⟩ = some (.slice A0_0 l0_0.length c0_0):=(a_a a_0.out 0).trans rfl
  have h_e : w9.cell? ⟨b_D,1,none⟩ = some (.int .i64 a0_1):=(a_a a_0.out 1).trans rfl
  have h_f:=a_b a_0.out 0
  have h_g:=a_b a_0.out 1
  go_wp2_with (first|((with_reducible refine a_P (f:=8) rfl ?_);refine b_v (some 18) rfl rfl Try.func8 (by kernel_rfl) rfl #[.agg #[.slice A0_0 l0_0.length c0_0,.int .i64 a0_1]] rfl (by (try simp only [List.map_toArray,List.map_cons,List.map_nil]);first|done|rfl|(simp only [List.length_drop,List.length_take];rfl)) ?_;(with_reducible refine (a_K.calls k _ _ l0_0 a0_1 false _ ?side1 ?side2 A10.out).mono ?_);(case side1 => repeat (first|exact (Kd.b_f c_V.out HB.out)|(with_reducible refine Kd.a_9 ?_ _)|(with_reducible refine Kd.a_8 ?_ _)|(with_reducible refine Kd.b_i ?_)));(case side2 => exact f_w.out);rintro e w17 ⟨rfl,hb⟩;refine ⟨_,rfl,?_⟩;replace a_0:=a_e.mk (a_l (bup_ a_0.out) hb);replace b_p:=a_e.mk (a_l (bup_ b_p.out) hb);replace HB:=a_e.mk (a_t (by repeat (first|(with_reducible first|exact HB.out|apply a_g|apply a_f|apply a_h|refine a_d ?_ b_W.out|refine a_d ?_ b_2.out)|exact HB.out)) hb);(try clear hb);(try clear hb2);(try clear hk);(try clear hi);have k_S : w17.cell? ⟨c_T,0,none⟩ = some (.int .i64 a1_0):=(a_a b_p.out 0).trans rfl;have k_T : w17.cell? ⟨c_T,1,none⟩ = some (.slice A1_1 l1_1.length c1_1):=(a_a b_p.out 1).trans rfl;have k_U:=a_b b_p.out 0;have k_V:=a_b b_p.out 1))
  go_meet
  case rel => exact ⟨_,(decide ((l1_1.length : Int) > 30)),(by first|rfl|(simp;done)|(simp [*];done)),H',⟨by first|omega|exact Nat.le_refl _⟩,⟨by (with_reducible repeat (first|refine a_j ?_ _|refine a_k ?_|refine a_i ?_ _));exact a_0.out⟩,⟨by (with_reducible repeat (first|refine a_j ?_ _|refine a_k ?_|refine a_i ?_ _));exact b_p.out⟩,⟨by repeat (first|(with_reducible first|exact HB.out|apply a_g|apply a_f|apply a_h|refine a_d ?_ b_W.out|refine a_d ?_ b_2.out)|exact HB.out)⟩⟩
 case rest =>
  clear HC6
  try clear c1
  try clear p2
  try clear c3
  try clear c5
  try clear c7
  try clear c8
  try clear c11
  try clear c12
  try clear c15
  try clear g_d
  try clear g_e
  try clear h_d
  try clear h_e
  try clear k_S
  try clear k_T
  try clear g_f
  try clear g_g
  try clear h_f
  try clear h_g
  try clear k_U
  try clear k_V
  obtain ⟨kq,x24_5,rfl,HA,HJ5,a_0,b_p,HB⟩:=hcut
  cases kq with
  | zero => exact absurd HA.out (by simp [a_u.j0])
  | succ kj5 =>
   have H:=HA.out
   clear HA
   simp only [a_u.j0] at H
   by_cases c19 : x24_5 = true
   ·subst c19
    have H1 : (some true) = some r:=by rw [if_pos rfl] at H;exact H
    clear H
    have H:=H1
    clear H1
    obtain rfl:=Option.some.inj H
    go_wp2
    go_ret
    exact ⟨by first|rfl|(simp [a_w,a_x] <;> rfl)|(simp [*, a_w,a_x] <;> rfl),by repeat (first|(with_reducible first|exact HB.out|apply a_g|apply a_f|apply a_h|refine a_d ?_ b_W.out|refine a_d ?_ b_2.out)|exact HB.out)⟩
   replace c19:=Bool.eq_false_iff.mpr c19
   subst c19
   have H1 : ((a_C.f kj5 l0_0 a0_1).bind fun bt251 => ((a_Y.f kj5 bt251.1 bt251.2 a1_0 l1_1).bind fun bt256 => ((b_J.f kj5 bt251.1 bt251.2 a2).bind fun bt262 => ((a_v.f kj5 l0_0 a0_1 a1_0 l1_1).bind fun bt268 => (if bt256.2.2 = bt268.2.2 then ((a_z.f kj5 bt256.1 bt256.2.1 bt268.1 bt268.2.1).bind fun t274 => (if t274 = true then ((a_z.f kj5 bt251.1 bt251.2 l0_0 a0_1).bind fun t275 => (a_u.j1 kj5 a2 bt262.2.2 (!t275) l0_0 a0_1 bt251.1 bt251.2 bt262.1 bt262.2.1)) else (a_u.j1 kj5 a2 bt262.2.2 true l0_0 a0_1 bt251.1 bt251.2 bt262.1 bt262.2.1))) else (a_u.j1 kj5 a2 bt262.2.2 true l0_0 a0_1 bt251.1 bt251.2 bt262.1 bt262.2.1)))))) = some r:=by rw [if_neg (show ¬ (false = true) by decide)] at H;exact H
   clear H
   have H:=H1
   clear H1
   replace H:=Option.bind_eq_some_iff.mp H
   obtain ⟨⟨t251,t254⟩,A200,H⟩:=H
   replace H : ((a_Y.f kj5 t251 t254 a1_0 l1_1).bind fun bt256 => ((b_J.f kj5 t251 t254 a2).bind fun bt262 => ((a_v.f kj5 l0_0 a0_1 a1_0 l1_1).bind fun bt268 => (if bt256.2.2 = bt268.2.2 then ((a_z.f kj5 bt256.1 bt256.2.1 bt268.1 bt268.2.1).bind fun t274 => (if t274 = true then ((a_z.f kj5 t251 t254 l0_0 a0_1).bind fun t275 => (a_u.j1 kj5 a2 bt262.2.2 (!t275) l0_0 a0_1 t251 t254 bt262.1 bt262.2.1)) else (a_u.j1 kj5 a2 bt262.2.2 true l0_0 a0_1 t251 t254 bt262.1 bt262.2.1))) else (a_u.j1 kj5 a2 bt262.2.2 true l0_0 a0_1 t251 t254 bt262.1 bt262.2.1))))) = some r:=H
   have A20:=a_e.mk A200
   clear A200
   replace H:=Option.bind_eq_some_iff.mp H
   obtain ⟨⟨t256,t259,t260⟩,A210,H⟩:=H
   replace H : ((b_J.f kj5 t251 t254 a2).bind fun bt262 => ((a_v.f kj5 l0_0 a0_1 a1_0 l1_1).bind fun bt268 => (if t260 = bt268.2.2 then ((a_z.f kj5 t256 t259 bt268.1 bt268.2.1).bind fun t274 => (if t274 = true then ((a_z.f kj5 t251 t254 l0_0 a0_1).bind fun t275 => (a_u.j1 kj5 a2 bt262.2.2 (!t275) l0_0 a0_1 t251 t254 bt262.1 bt262.2.1)) else (a_u.j1 kj5 a2 bt262.2.2 true l0_0 a0_1 t251 t254 bt262.1 bt262.2.1))) else (a_u.j1 kj5 a2 bt262.2.2 true l0_0 a0_1 t251 t254 bt262.1 bt262.2.1)))) = some r:=H
   have A21:=a_e.mk A210
   clear A210
   replace H:=Option.bind_eq_some_iff.mp H
   obtain ⟨⟨t262,t265,t266⟩,A220,H⟩:=H
   replace H : ((a_v.f kj5 l0_0 a0_1 a1_0 l1_1).bind fun bt268 => (if t260 = bt268.2.2 then ((a_z.f kj5 t256 t259 bt268.1 bt268.2.1).bind fun t274 => (if t274 = true then ((a_z.f kj5 t251 t254 l0_0 a0_1).bind fun t275 => (a_u.j1 kj5 a2 t266 (!t275) l0_0 a0_1 t251 t254 t262 t265)) else (a_u.j1 kj5 a2 t266 true l0_0 a0_1 t251 t254 t262 t265))) else (a_u.j1 kj5 a2 t266 true l0_0 a0_1 t251 t254 t262 t265))) = some r:=H
   have A22:=a_e.mk A220
   clear A220
   replace H:=Option.bind_eq_some_iff.mp H
   obtain ⟨⟨t268,t271,t272⟩,A230,H⟩:=H
   replace H : (if t260 = t272 then ((a_z.f kj5 t256 t259 t268 t271).bind fun t274 => (if t274 = true then ((a_z.f kj5 t251 t254 l0_0 a0_1).bind fun t275 => (a_u.j1 kj5 a2 t266 (!t275) l0_0 a0_1 t251 t254 t262 t265)) else (a_u.j1 kj5 a2 t266 true l0_0 a0_1 t251 t254 t262 t265))) else (a_u.j1 kj5 a2 t266 true l0_0 a0_1 t251 t254 t262 t265)) = some r:=H
   have A23:=a_e.mk A230
   clear A230
   have HC24:=a_e.mk H
   clear H
   have O_5:=c_X.out
   have O_6:=c_Y.out
   have j_p : wc.cell? ⟨b_D,0,none⟩ = some (.slice A0_0 l0_0.length c0_0):=(a_a a_0.out 0).trans rfl
   have j_q : wc.cell? ⟨b_D,1,none⟩ = some (.int .i64 a0_1):=(a_a a_0.out 1).trans rfl
   have j_r:=a_b a_0.out 0
   have j_s:=a_b a_0.out 1
   go_upto_region 9 with (first|((with_reducible refine a_P (f:=9) rfl ?_);refine b_v (some 26) rfl rfl Try.func9 (by kernel_rfl) rfl #[.agg #[.slice A0_0 l0_0.length c0_0,.int .i64 a0_1]] rfl (by (try simp only [List.map_toArray,List.map_cons,List.map_nil]);first|done|rfl|(simp only [List.length_drop,List.length_take];rfl)) ?_;(with_reducible refine (a_C.calls kj5 _ _ l0_0 a0_1 t251 t254 _ ?side1 ?side2 A20.out).mono ?_);(case side1 => repeat (first|exact (Kd.b_f c_V.out HB.out)|(with_reducible refine Kd.a_9 ?_ _)|(with_reducible refine Kd.a_8 ?_ _)|(with_reducible refine Kd.b_i ?_)));(case side2 => exact f_w.out);rintro e w27 ⟨v252,rfl,ho0,hb⟩;refine ⟨_,rfl,?_⟩;have e_m:=a_e.mk (Kd.i_e (Kd.b_P (ok':=fun k_ => k_ ≠ b_D ∧ k_ ≠ c_T) (Kd.S_N (Kd.l_V ho0)) (fun k_ hk_ => ⟨(Kd.d_g (g:=b_D) (o:=.cells #[.slice A0_0 l0_0.length c0_0,.int .i64 a0_1] 24 (0,0)) (bup_ a_0.out) k_ hk_.2.1),(Kd.d_g (g:=c_T) (o:=.cells #[.int .i64 a1_0,.slice A1_1 l1_1.length c1_1] 27 (0,0)) (bup_ b_p.out) k_ hk_.2.1)⟩)) (a_p (by repeat (first|(with_reducible first|exact HB.out|apply a_g|apply a_f|apply a_h|refine a_d ?_ b_W.out|refine a_d ?_ b_2.out)|exact HB.out))));replace a_0:=a_e.mk (a_l (bup_ a_0.out) hb);replace b_p:=a_e.mk (a_l (bup_ b_p.out) hb);replace HB:=a_e.mk (a_t (by repeat (first|(with_reducible first|exact HB.out|apply a_g|apply a_f|apply a_h|refine a_d ?_ b_W.out|refine a_d ?_ b_2.out)|exact HB.out)) hb);(try clear hb);(try clear hb2);(try clear hk);(try clear hi);(try clear ho0))|((with_reducible refine a_U (N:=7) rfl ?_);(try (refine c_P (by rfl) ?_;dsimp only));refine a_H ?hg (N:=7) ?hd (cs:=#[.slice none 0 0,.int .i64 0]) (t:=24) ?hr ?_;(case hd => rfl);(case hg => rfl);(case hr => first|(go_simp;done)|(go_simp;rfl));intro b_4 hg w28 hbox hb;have b_d:=a_e.mk (hbox);have u_3:=a_e.mk ((by rw [hg];exact (a_p (by repeat (first|(with_reducible first|exact HB.out|apply a_g|apply a_f|apply a_h|refine a_d ?_ b_W.out|refine a_d ?_ b_2.out)|exact HB.out))) : w.heap.size ≤ b_4));have c_k:=a_e.mk ((by rw [hg];exact (a_p (by repeat (first|(with_reducible first|exact HB.out|apply a_g|apply a_f|apply a_h|refine a_d ?_ b_W.out|refine a_d ?_ b_2.out)|exact HB.out))) : w.heap.size ≤ b_4));have c_9:=a_e.mk ((by rw [hg];exact Nat.ne_of_lt (a_N (bup_ a_0.out)) : b_D ≠ b_4));have d_K:=a_e.mk ((by rw [hg];exact Nat.ne_of_gt (a_N (bup_ a_0.out)) : b_4 ≠ b_D));have d_a:=a_e.mk ((by rw [hg];exact Nat.ne_of_lt (a_N (bup_ b_p.out)) : c_T ≠ b_4));have d_L:=a_e.mk ((by rw [hg];exact Nat.ne_of_gt (a_N (bup_ b_p.out)) : b_4 ≠ c_T));replace e_m:=a_e.mk (Kd.a_2 (Kd.f_v (by (with_reducible repeat (first|apply Kd.a_R|apply Kd.a_S|apply Kd.a_Z));exact e_m.out) b_4 (Nat.le_of_eq hg.symm)) hb);replace a_0:=a_e.mk (a_l (bup_ a_0.out) hb);replace b_p:=a_e.mk (a_l (bup_ b_p.out) hb);replace HB:=a_e.mk (a_t (by repeat (first|(with_reducible first|exact HB.out|apply a_g|apply a_f|apply a_h|refine a_d ?_ b_W.out|refine a_d ?_ b_2.out)|exact HB.out)) hb);clear hb hbox hg;obtain ⟨Ao29,co29,eo29⟩:=Kd.f_A e_m.out;subst eo29;have t_u:=d_K.out;have t_v:=c_9.out;have J_g:=d_L.out;have J_h:=d_a.out;have m_7 : w28.cell? ⟨b_4,0,none⟩ = some (.slice none 0 0):=(a_a b_d.out 0).trans rfl;have m_8 : w28.cell? ⟨b_4,1,none⟩ = some (.int .i64 0):=(a_a b_d.out 1).trans rfl;have m_9:=a_b b_d.out 0;have n_a:=a_b b_d.out 1)|((with_reducible refine g_W (t:=24) (p:=7) rfl ?_);refine f_8 (t:=24) (p:=7) (v:=?vo_w33) (w1:=((w28.setCell ⟨b_4,0,none⟩ (.slice Ao29 t251.length co29)).setCell ⟨b_4,1,none⟩ (.int .i64 t254))) ?hg ?ho ?hn ?hr ?_;(case ho => rfl);(case hg => rfl);(case hn => rfl);(case hr => first|(go_simp;done)|(go_simp;rfl));intro w33 hw;replace e_m : a_e (Kd.N k27 27 w33 w.heap.size (fun k_ => k_ ≠ b_D ∧ k_ ≠ c_T ∧ k_ ≠ b_4) (.slice Ao29 t251.length co29) t251):=⟨(by rw [hw];exact (by (with_reducible repeat (first|apply Kd.a_R|apply Kd.a_S|apply Kd.a_Z));exact Kd.b_P (Kd.d_E (p:=⟨b_4,1,none⟩) (Kd.d_E (p:=⟨b_4,0,none⟩) (Kd.b_P e_m.out (fun k_ hk => (⟨hk,hk.2⟩ : _ ∧ k_ ≠ b_4))) (fun _ hk => hk.2) (.slice Ao29 t251.length co29)) (fun _ hk => hk.2) (.int .i64 t254)) (fun _ hk => ⟨hk.1.1.1,⟨hk.1.1.2,hk.1.2⟩⟩)))⟩;replace a_0 : a_e (w33.heap[b_D]? = some (.cells #[.slice A0_0 l0_0.length c0_0,.int .i64 a0_1] 24 (0,0))):=⟨(by rw [hw];exact (by (with_reducible repeat (first|refine a_j ?_ _|refine a_k ?_|refine a_i ?_ _));refine a_B ?_ c_9.out _;(with_reducible repeat (first|refine a_j ?_ _|refine a_k ?_|refine a_i ?_ _));refine a_B ?_ c_9.out _;(with_reducible repeat (first|refine a_j ?_ _|refine a_k ?_|refine a_i ?_ _));exact a_0.out))⟩;replace b_p : a_e (w33.heap[c_T]? = some (.cells #[.int .i64 a1_0,.slice A1_1 l1_1.length c1_1] 27 (0,0))):=⟨(by rw [hw];exact (by (with_reducible repeat (first|refine a_j ?_ _|refine a_k ?_|refine a_i ?_ _));refine a_B ?_ d_a.out _;(with_reducible repeat (first|refine a_j ?_ _|refine a_k ?_|refine a_i ?_ _));refine a_B ?_ d_a.out _;(with_reducible repeat (first|refine a_j ?_ _|refine a_k ?_|refine a_i ?_ _));exact b_p.out))⟩;replace b_d : a_e (w33.heap[b_4]? = some (.cells #[.slice Ao29 t251.length co29,.int .i64 t254] 24 (0,0))):=⟨(by rw [hw];exact (by (with_reducible repeat (first|refine a_j ?_ _|refine a_k ?_|refine a_i ?_ _));refine a_J (cs:=#[.slice Ao29 t251.length co29,.int .i64 0]) ?_ 1 _ rfl;(with_reducible repeat (first|refine a_j ?_ _|refine a_k ?_|refine a_i ?_ _));refine a_J (cs:=#[.slice none 0 0,.int .i64 0]) ?_ 0 _ rfl;(with_reducible repeat (first|refine a_j ?_ _|refine a_k ?_|refine a_i ?_ _));exact b_d.out))⟩;replace HB : a_e (Below w.heap.size w w33):=⟨(by rw [hw];exact (by repeat (first|(with_reducible first|exact HB.out|apply a_g|apply a_f|apply a_h|refine a_d ?_ b_W.out|refine a_d ?_ b_2.out|refine a_d ?_ c_k.out)|exact HB.out)))⟩;clear hw;have m_U : w33.cell? ⟨b_4,0,none⟩ = some (.slice Ao29 t251.length co29):=(a_a b_d.out 0).trans rfl;have m_V : w33.cell? ⟨b_4,1,none⟩ = some (.int .i64 t254):=(a_a b_d.out 1).trans rfl;have m_W:=a_b b_d.out 0;have m_X:=a_b b_d.out 1;have l_e : w33.cell? ⟨c_T,0,none⟩ = some (.int .i64 a1_0):=(a_a b_p.out 0).trans rfl;have l_f : w33.cell? ⟨c_T,1,none⟩ = some (.slice A1_1 l1_1.length c1_1):=(a_a b_p.out 1).trans rfl;have l_g:=a_b b_p.out 0;have l_h:=a_b b_p.out 1)|((with_reducible refine a_P (f:=10) rfl ?_);refine b_v (some 30) rfl rfl Try.func10 (by kernel_rfl) rfl #[.agg #[.slice Ao29 t251.length co29,.int .i64 t254],.agg #[.int .i64 a1_0,.slice A1_1 l1_1.length c1_1]] rfl (by (try simp only [List.map_toArray,List.map_cons,List.map_nil]);first|done|rfl|(simp only [List.length_drop,List.length_take];rfl)) ?_;(with_reducible refine (a_Y.calls kj5 (fun k_ => (k_ ≠ b_D ∧ (k_ ≠ c_T ∧ k_ ≠ b_4))) _ _ t251 t254 a1_0 (fun k_ => k_ < w.heap.size) _ _ l1_1 t256 t259 t260 _ ?side1 ?side2 A21.out).mono ?_);(case side1 => exact Kd.N_V (e_m.out));(case side2 => exact Kd.V_mk w_L.out (Kd.h_b (Kd.C_F k_D w_K.out) (by repeat (first|(with_reducible first|exact HB.out|apply a_g|apply a_f|apply a_h|refine a_d ?_ b_W.out|refine a_d ?_ b_2.out|refine a_d ?_ c_k.out)|exact HB.out))));rintro e w36 ⟨v257,rfl,ho0,hb⟩;refine ⟨_,rfl,?_⟩;have e_H:=a_e.mk (Kd.i_e (Kd.b_P (ok':=fun k_ => k_ ≠ b_D ∧ k_ ≠ c_T ∧ k_ ≠ b_4) ho0 (fun k_ hk_ => ⟨Or.elim hk_ (fun hs_ => Or.elim hs_ (fun hs_ => hs_.1) (fun hs_ => fun e_ => Nat.not_le.2 hs_ (by rw [e_];exact r_E.out))) (fun hn_ => (Kd.d_g (g:=b_D) (o:=.cells #[.slice A0_0 l0_0.length c0_0,.int .i64 a0_1] 24 (0,0)) (bup_ a_0.out) k_ hn_)),Or.elim hk_ (fun hs_ => Or.elim hs_ (fun hs_ => hs_.2.1) (fun hs_ => fun e_ => Nat.not_le.2 hs_ (by rw [e_];exact r_F.out))) (fun hn_ => (Kd.d_g (g:=c_T) (o:=.cells #[.int .i64 a1_0,.slice A1_1 l1_1.length c1_1] 27 (0,0)) (bup_ b_p.out) k_ hn_)),Or.elim hk_ (fun hs_ => Or.elim hs_ (fun hs_ => hs_.2.2) (fun hs_ => fun e_ => Nat.not_le.2 hs_ (by rw [e_];exact u_3.out))) (fun hn_ => (Kd.d_g (g:=b_4) (o:=.cells #[.slice Ao29 t251.length co29,.int .i64 t254] 24 (0,0)) (bup_ b_d.out) k_ hn_))⟩)) (a_p (by repeat (first|(with_reducible first|exact HB.out|apply a_g|apply a_f|apply a_h|refine a_d ?_ b_W.out|refine a_d ?_ b_2.out|refine a_d ?_ c_k.out)|exact HB.out))));replace e_m:=a_e.mk (Kd.h_K (by (with_reducible repeat (first|apply Kd.a_R|apply Kd.a_S|apply Kd.a_Z));exact e_m.out) (Kd.g_H ho0) hb);replace a_0:=a_e.mk (a_l (bup_ a_0.out) hb);replace b_p:=a_e.mk (a_l (bup_ b_p.out) hb);replace b_d:=a_e.mk (a_l (bup_ b_d.out) hb);replace HB:=a_e.mk (a_t (by repeat (first|(with_reducible first|exact HB.out|apply a_g|apply a_f|apply a_h|refine a_d ?_ b_W.out|refine a_d ?_ b_2.out|refine a_d ?_ c_k.out)|exact HB.out)) hb);(try clear hb);(try clear hb2);(try clear hk);(try clear hi);(try clear ho0))|((with_reducible refine a_U (N:=8) rfl ?_);(try (refine c_P (by rfl) ?_;dsimp only));refine a_H ?hg (N:=8) ?hd (cs:=#[.slice none 0 0,.int .i64 0]) (t:=24) ?hr ?_;(case hd => rfl);(case hg => rfl);(case hr => first|(go_simp;done)|(go_simp;rfl));intro c_7 hg w37 hbox hb;have b_O:=a_e.mk (hbox);have w_M:=a_e.mk ((by rw [hg];exact (a_p (by repeat (first|(with_reducible first|exact HB.out|apply a_g|apply a_f|apply a_h|refine a_d ?_ b_W.out|refine a_d ?_ b_2.out|refine a_d ?_ c_k.out)|exact HB.out))) : w.heap.size ≤ c_7));have c_M:=a_e.mk ((by rw [hg];exact (a_p (by repeat (first|(with_reducible first|exact HB.out|apply a_g|apply a_f|apply a_h|refine a_d ?_ b_W.out|refine a_d ?_ b_2.out|refine a_d ?_ c_k.out)|exact HB.out))) : w.heap.size ≤ c_7));have c_Z:=a_e.mk ((by rw [hg];exact Nat.ne_of_lt (a_N (bup_ a_0.out)) : b_D ≠ c_7));have d_A:=a_e.mk ((by rw [hg];exact Nat.ne_of_gt (a_N (bup_ a_0.out)) : c_7 ≠ b_D));have g_S:=a_e.mk ((by rw [hg];exact Nat.ne_of_lt (a_N (bup_ b_p.out)) : c_T ≠ c_7));have k_a:=a_e.mk ((by rw [hg];exact Nat.ne_of_gt (a_N (bup_ b_p.out)) : c_7 ≠ c_T));have c_0:=a_e.mk ((by rw [hg];exact Nat.ne_of_lt (a_N (bup_ b_d.out)) : b_4 ≠ c_7));have d_B:=a_e.mk ((by rw [hg];exact Nat.ne_of_gt (a_N (bup_ b_d.out)) : c_7 ≠ b_4));replace e_m:=a_e.mk (Kd.a_2 (Kd.f_v (by (with_reducible repeat (first|apply Kd.a_R|apply Kd.a_S|apply Kd.a_Z));exact e_m.out) c_7 (Nat.le_of_eq hg.symm)) hb);replace e_H:=a_e.mk (Kd.a_2 (Kd.f_v (by (with_reducible repeat (first|apply Kd.a_R|apply Kd.a_S|apply Kd.a_Z));exact e_H.out) c_7 (Nat.le_of_eq hg.symm)) hb);replace a_0:=a_e.mk (a_l (bup_ a_0.out) hb);replace b_p:=a_e.mk (a_l (bup_ b_p.out) hb);replace b_d:=a_e.mk (a_l (bup_ b_d.out) hb);replace HB:=a_e.mk (a_t (by repeat (first|(with_reducible first|exact HB.out|apply a_g|apply a_f|apply a_h|refine a_d ?_ b_W.out|refine a_d ?_ b_2.out|refine a_d ?_ c_k.out)|exact HB.out)) hb);clear hb hbox hg;obtain ⟨Ao38,co38,eo38⟩:=Kd.f_A e_H.out;subst eo38;have H_N:=d_A.out;have H_O:=c_Z.out;have G_6:=k_a.out;have G_7:=g_S.out;have w_n:=d_B.out;have w_o:=c_0.out;have j_t : w37.cell? ⟨c_7,0,none⟩ = some (.slice none 0 0):=(a_a b_O.out 0).trans rfl;have j_u : w37.cell? ⟨c_7,1,none⟩ = some (.int .i64 0):=(a_a b_O.out 1).trans rfl;have j_v:=a_b b_O.out 0;have j_w:=a_b b_O.out 1)|((with_reducible refine g_W (t:=24) (p:=8) rfl ?_);refine f_8 (t:=24) (p:=8) (v:=?vo_w43) (w1:=((w37.setCell ⟨c_7,0,none⟩ (.slice Ao38 t256.length co38)).setCell ⟨c_7,1,none⟩ (.int .i64 t259))) ?hg ?ho ?hn ?hr ?_;(case ho => rfl);(case hg => rfl);(case hn => rfl);(case hr => first|(go_simp;done)|(go_simp;rfl));intro w43 hw;replace e_m : a_e (Kd.N k27 27 w43 w.heap.size (fun k_ => some k_ ≠ (.slice Ao38 t256.length co38 : Value).ownBlock ∧ k_ ≠ b_D ∧ k_ ≠ c_T ∧ k_ ≠ b_4 ∧ k_ ≠ c_7) (.slice Ao29 t251.length co29) t251):=⟨(by rw [hw];exact (by (with_reducible repeat (first|apply Kd.a_R|apply Kd.a_S|apply Kd.a_Z));exact Kd.b_P (Kd.d_E (p:=⟨c_7,1,none⟩) (Kd.d_E (p:=⟨c_7,0,none⟩) (Kd.b_P e_m.out (fun k_ hk => (⟨hk,hk.2⟩ : _ ∧ k_ ≠ c_7))) (fun _ hk => hk.2) (.slice Ao38 t256.length co38)) (fun _ hk => hk.2) (.int .i64 t259)) (fun _ hk => ⟨hk.1.1.2,⟨hk.1.1.1.1,⟨hk.1.1.1.2.1,⟨hk.1.1.1.2.2,hk.1.2⟩⟩⟩⟩)))⟩;replace e_H : a_e (Kd.N k27 27 w43 w.heap.size (fun k_ => k_ ≠ b_D ∧ k_ ≠ c_T ∧ k_ ≠ b_4 ∧ k_ ≠ c_7) (.slice Ao38 t256.length co38) t256):=⟨(by rw [hw];exact (by (with_reducible repeat (first|apply Kd.a_R|apply Kd.a_S|apply Kd.a_Z));exact Kd.b_P (Kd.d_E (p:=⟨c_7,1,none⟩) (Kd.d_E (p:=⟨c_7,0,none⟩) (Kd.b_P e_H.out (fun k_ hk => (⟨hk,hk.2⟩ : _ ∧ k_ ≠ c_7))) (fun _ hk => hk.2) (.slice Ao38 t256.length co38)) (fun _ hk => hk.2) (.int .i64 t259)) (fun _ hk => ⟨hk.1.1.1,⟨hk.1.1.2.1,⟨hk.1.1.2.2,hk.1.2⟩⟩⟩)))⟩;replace a_0 : a_e (w43.heap[b_D]? = some (.cells #[.slice A0_0 l0_0.length c0_0,.int .i64 a0_1] 24 (0,0))):=⟨(by rw [hw];exact (by (with_reducible repeat (first|refine a_j ?_ _|refine a_k ?_|refine a_i ?_ _));refine a_B ?_ c_Z.out _;(with_reducible repeat (first|refine a_j ?_ _|refine a_k ?_|refine a_i ?_ _));refine a_B ?_ c_Z.out _;(with_reducible repeat (first|refine a_j ?_ _|refine a_k ?_|refine a_i ?_ _));exact a_0.out))⟩;replace b_p : a_e (w43.heap[c_T]? = some (.cells #[.int .i64 a1_0,.slice A1_1 l1_1.length c1_1] 27 (0,0))):=⟨(by rw [hw];exact (by (with_reducible repeat (first|refine a_j ?_ _|refine a_k ?_|refine a_i ?_ _));refine a_B ?_ g_S.out _;(with_reducible repeat (first|refine a_j ?_ _|refine a_k ?_|refine a_i ?_ _));refine a_B ?_ g_S.out _;(with_reducible repeat (first|refine a_j ?_ _|refine a_k ?_|refine a_i ?_ _));exact b_p.out))⟩;replace b_d : a_e (w43.heap[b_4]? = some (.cells #[.slice Ao29 t251.length co29,.int .i64 t254] 24 (0,0))):=⟨(by rw [hw];exact (by (with_reducible repeat (first|refine a_j ?_ _|refine a_k ?_|refine a_i ?_ _));refine a_B ?_ c_0.out _;(with_reducible repeat (first|refine a_j ?_ _|refine a_k ?_|refine a_i ?_ _));refine a_B ?_ c_0.out _;(with_reducible repeat (first|refine a_j ?_ _|refine a_k ?_|refine a_i ?_ _));exact b_d.out))⟩;replace b_O : a_e (w43.heap[c_7]? = some (.cells #[.slice Ao38 t256.length co38,.int .i64 t259] 24 (0,0))):=⟨(by rw [hw];exact (by (with_reducible repeat (first|refine a_j ?_ _|refine a_k ?_|refine a_i ?_ _));refine a_J (cs:=#[.slice Ao38 t256.length co38,.int .i64 0]) ?_ 1 _ rfl;(with_reducible repeat (first|refine a_j ?_ _|refine a_k ?_|refine a_i ?_ _));refine a_J (cs:=#[.slice none 0 0,.int .i64 0]) ?_ 0 _ rfl;(with_reducible repeat (first|refine a_j ?_ _|refine a_k ?_|refine a_i ?_ _));exact b_O.out))⟩;replace HB : a_e (Below w.heap.size w w43):=⟨(by rw [hw];exact (by repeat (first|(with_reducible first|exact HB.out|apply a_g|apply a_f|apply a_h|refine a_d ?_ b_W.out|refine a_d ?_ b_2.out|refine a_d ?_ c_k.out|refine a_d ?_ c_M.out)|exact HB.out)))⟩;clear hw;have q_a : w43.cell? ⟨b_4,0,none⟩ = some (.slice Ao29 t251.length co29):=(a_a b_d.out 0).trans rfl;have q_b : w43.cell? ⟨b_4,1,none⟩ = some (.int .i64 t254):=(a_a b_d.out 1).trans rfl;have q_d:=a_b b_d.out 0;have q_e:=a_b b_d.out 1)|((with_reducible refine a_P (f:=11) rfl ?_);refine b_v (some 36) rfl rfl Try.func11 (by kernel_rfl) rfl #[.agg #[.slice Ao29 t251.length co29,.int .i64 t254],.int .i64 a2] rfl (by (try simp only [List.map_toArray,List.map_cons,List.map_nil]);first|done|rfl|(simp only [List.length_drop,List.length_take];rfl)) ?_;(with_reducible refine (b_J.calls kj5 (fun k_ => (some k_ ≠ (.slice Ao38 t256.length co38 : Value).ownBlock ∧ (k_ ≠ b_D ∧ (k_ ≠ c_T ∧ (k_ ≠ b_4 ∧ k_ ≠ c_7))))) _ _ t251 t254 a2 t262 t265 t266 _ ?side1 A22.out).mono ?_);(case side1 => exact Kd.N_V (e_m.out));rintro e w45 ⟨v263,rfl,ho0,hb⟩;refine ⟨_,rfl,?_⟩;have g_C:=a_e.mk (Kd.o_R (Kd.b_X (ok':=fun k_ => some k_ ≠ (.slice Ao38 t256.length co38 : Value).ownBlock ∧ k_ ≠ b_D ∧ k_ ≠ c_T ∧ k_ ≠ b_4 ∧ k_ ≠ c_7) ho0 (fun k_ hk_ => ⟨Or.elim hk_ (fun hs_ => hs_.1) (fun hn_ => (Kd.fresh' (Kd.N_lt (by (with_reducible repeat (first|apply Kd.a_R|apply Kd.a_S|apply Kd.a_Z));exact e_H.out)) k_ hn_)),Or.elim hk_ (fun hs_ => hs_.2.1) (fun hn_ => (Kd.d_g (g:=b_D) (o:=.cells #[.slice A0_0 l0_0.length c0_0,.int .i64 a0_1] 24 (0,0)) (bup_ a_0.out) k_ hn_)),Or.elim hk_ (fun hs_ => hs_.2.2.1) (fun hn_ => (Kd.d_g (g:=c_T) (o:=.cells #[.int .i64 a1_0,.slice A1_1 l1_1.length c1_1] 27 (0,0)) (bup_ b_p.out) k_ hn_)),Or.elim hk_ (fun hs_ => hs_.2.2.2.1) (fun hn_ => (Kd.d_g (g:=b_4) (o:=.cells #[.slice Ao29 t251.length co29,.int .i64 t254] 24 (0,0)) (bup_ b_d.out) k_ hn_)),Or.elim hk_ (fun hs_ => hs_.2.2.2.2) (fun hn_ => (Kd.d_g (g:=c_7) (o:=.cells #[.slice Ao38 t256.length co38,.int .i64 t259] 24 (0,0)) (bup_ b_O.out) k_ hn_))⟩)) (a_p (by repeat (first|(with_reducible first|exact HB.out|apply a_g|apply a_f|apply a_h|refine a_d ?_ b_W.out|refine a_d ?_ b_2.out|refine a_d ?_ c_k.out|refine a_d ?_ c_M.out)|exact HB.out))));replace e_m:=a_e.mk (Kd.a_2 (by (with_reducible repeat (first|apply Kd.a_R|apply Kd.a_S|apply Kd.a_Z));exact e_m.out) hb);replace e_H:=a_e.mk (Kd.a_2 (by (with_reducible repeat (first|apply Kd.a_R|apply Kd.a_S|apply Kd.a_Z));exact e_H.out) hb);replace a_0:=a_e.mk (a_l (bup_ a_0.out) hb);replace b_p:=a_e.mk (a_l (bup_ b_p.out) hb);replace b_d:=a_e.mk (a_l (bup_ b_d.out) hb);replace b_O:=a_e.mk (a_l (bup_ b_O.out) hb);replace HB:=a_e.mk (a_t (by repeat (first|(with_reducible first|exact HB.out|apply a_g|apply a_f|apply a_h|refine a_d ?_ b_W.out|refine a_d ?_ b_2.out|refine a_d ?_ c_k.out|refine a_d ?_ c_M.out)|exact HB.out)) hb);(try clear hb);(try clear hb2);(try clear hk);(try clear hi);(try clear ho0))|((with_reducible refine a_U (N:=10) rfl ?_);(try (refine c_P (by rfl) ?_;dsimp only));refine a_H ?hg (N:=10) ?hd (cs:=#[.slice none 0 0,.int .i64 0]) (t:=24) ?hr ?_;(case hd => rfl);(case hg => rfl);(case hr => first|(go_simp;done)|(go_simp;rfl));intro c_1 hg w46 hbox hb;have b_U:=a_e.mk (hbox);have w_N:=a_e.mk ((by rw [hg];exact (a_p (by repeat (first|(with_reducible first|exact HB.out|apply a_g|apply a_f|apply a_h|refine a_d ?_ b_W.out|refine a_d ?_ b_2.out|refine a_d ?_ c_k.out|refine a_d ?_ c_M.out)|exact HB.out))) : w.heap.size ≤ c_1));have c_3:=a_e.mk ((by rw [hg];exact (a_p (by repeat (first|(with_reducible first|exact HB.out|apply a_g|apply a_f|apply a_h|refine a_d ?_ b_W.out|refine a_d ?_ b_2.out|refine a_d ?_ c_k.out|refine a_d ?_ c_M.out)|exact HB.out))) : w.heap.size ≤ c_1));have d_b:=a_e.mk ((by rw [hg];exact Nat.ne_of_lt (a_N (bup_ a_0.out)) : b_D ≠ c_1));have d_M:=a_e.mk ((by rw [hg];exact Nat.ne_of_gt (a_N (bup_ a_0.out)) : c_1 ≠ b_D));have f_R:=a_e.mk ((by rw [hg];exact Nat.ne_of_lt (a_N (bup_ b_p.out)) : c_T ≠ c_1));have g_T:=a_e.mk ((by rw [hg];exact Nat.ne_of_gt (a_N (bup_ b_p.out)) : c_1 ≠ c_T));have d_c:=a_e.mk ((by rw [hg];exact Nat.ne_of_lt (a_N (bup_ b_d.out)) : b_4 ≠ c_1));have d_N:=a_e.mk ((by rw [hg];exact Nat.ne_of_gt (a_N (bup_ b_d.out)) : c_1 ≠ b_4));have e_5:=a_e.mk ((by rw [hg];exact Nat.ne_of_lt (a_N (bup_ b_O.out)) : c_7 ≠ c_1));have f_S:=a_e.mk ((by rw [hg];exact Nat.ne_of_gt (a_N (bup_ b_O.out)) : c_1 ≠ c_7));replace e_m:=a_e.mk (Kd.a_2 (Kd.f_v (by (with_reducible repeat (first|apply Kd.a_R|apply Kd.a_S|apply Kd.a_Z));exact e_m.out) c_1 (Nat.le_of_eq hg.symm)) hb);replace e_H:=a_e.mk (Kd.a_2 (Kd.f_v (by (with_reducible repeat (first|apply Kd.a_R|apply Kd.a_S|apply Kd.a_Z));exact e_H.out) c_1 (Nat.le_of_eq hg.symm)) hb);replace g_C:=a_e.mk (Kd.a_3 (Kd.b_q (by (with_reducible repeat (first|apply Kd.a_Q|apply Kd.a_O|apply Kd.a_W));exact g_C.out) c_1 (Nat.le_of_eq hg.symm)) hb);replace a_0:=a_e.mk (a_l (bup_ a_0.out) hb);replace b_p:=a_e.mk (a_l (bup_ b_p.out) hb);replace b_d:=a_e.mk (a_l (bup_ b_d.out) hb);replace b_O:=a_e.mk (a_l (bup_ b_O.out) hb);replace HB:=a_e.mk (a_t (by repeat (first|(with_reducible first|exact HB.out|apply a_g|apply a_f|apply a_h|refine a_d ?_ b_W.out|refine a_d ?_ b_2.out|refine a_d ?_ c_k.out|refine a_d ?_ c_M.out)|exact HB.out)) hb);clear hb hbox hg;obtain ⟨Ao47,co47,eo47⟩:=Kd.o_r g_C.out;subst eo47;have G_G:=d_M.out;have G_H:=d_b.out;have w_A:=g_T.out;have w_B:=f_R.out;have B_v:=d_N.out;have B_w:=d_c.out;have F_W:=f_S.out;have F_X:=e_5.out;have m_3 : w46.cell? ⟨c_1,0,none⟩ = some (.slice none 0 0):=(a_a b_U.out 0).trans rfl;have m_4 : w46.cell? ⟨c_1,1,none⟩ = some (.int .i64 0):=(a_a b_U.out 1).trans rfl;have m_5:=a_b b_U.out 0;have m_6:=a_b b_U.out 1)|((with_reducible refine g_W (t:=24) (p:=10) rfl ?_);refine f_8 (t:=24) (p:=10) (v:=?vo_w53) (w1:=((w46.setCell ⟨c_1,0,none⟩ (.slice Ao47 t262.length co47)).setCell ⟨c_1,1,none⟩ (.int .i64 t265))) ?hg ?ho ?hn ?hr ?_;(case ho => rfl);(case hg => rfl);(case hn => rfl);(case hr => first|(go_simp;done)|(go_simp;rfl));intro w53 hw;replace e_m : a_e (Kd.N k27 27 w53 w.heap.size (fun k_ => some k_ ≠ (.slice Ao38 t256.length co38 : Value).ownBlock ∧ k_ ≠ b_D ∧ k_ ≠ c_T ∧ k_ ≠ b_4 ∧ k_ ≠ c_7 ∧ k_ ≠ c_1) (.slice Ao29 t251.length co29) t251):=⟨(by rw [hw];exact (by (with_reducible repeat (first|apply Kd.a_R|apply Kd.a_S|apply Kd.a_Z));exact Kd.b_P (Kd.d_E (p:=⟨c_1,1,none⟩) (Kd.d_E (p:=⟨c_1,0,none⟩) (Kd.b_P e_m.out (fun k_ hk => (⟨hk,hk.2⟩ : _ ∧ k_ ≠ c_1))) (fun _ hk => hk.2) (.slice Ao47 t262.length co47)) (fun _ hk => hk.2) (.int .i64 t265)) (fun _ hk => ⟨hk.1.1.1,⟨hk.1.1.2.1,⟨hk.1.1.2.2.1,⟨hk.1.1.2.2.2.1,⟨hk.1.1.2.2.2.2,hk.1.2⟩⟩⟩⟩⟩)))⟩;replace e_H : a_e (Kd.N k27 27 w53 w.heap.size (fun k_ => k_ ≠ b_D ∧ k_ ≠ c_T ∧ k_ ≠ b_4 ∧ k_ ≠ c_7 ∧ k_ ≠ c_1) (.slice Ao38 t256.length co38) t256):=⟨(by rw [hw];exact (by (with_reducible repeat (first|apply Kd.a_R|apply Kd.a_S|apply Kd.a_Z));exact Kd.b_P (Kd.d_E (p:=⟨c_1,1,none⟩) (Kd.d_E (p:=⟨c_1,0,none⟩) (Kd.b_P e_H.out (fun k_ hk => (⟨hk,hk.2⟩ : _ ∧ k_ ≠ c_1))) (fun _ hk => hk.2) (.slice Ao47 t262.length co47)) (fun _ hk => hk.2) (.int .i64 t265)) (fun _ hk => ⟨hk.1.1.1,⟨hk.1.1.2.1,⟨hk.1.1.2.2.1,⟨hk.1.1.2.2.2,hk.1.2⟩⟩⟩⟩)))⟩;replace g_C : a_e (Kd.V k27 27 w53 w.heap.size (fun k_ => some k_ ≠ (.slice Ao38 t256.length co38 : Value).ownBlock ∧ k_ ≠ b_D ∧ k_ ≠ c_T ∧ k_ ≠ b_4 ∧ k_ ≠ c_7 ∧ k_ ≠ c_1) (.slice Ao47 t262.length co47) t262):=⟨(by rw [hw];exact (by (with_reducible repeat (first|apply Kd.a_Q|apply Kd.a_O|apply Kd.a_W));exact Kd.b_X (Kd.g_7 (p:=⟨c_1,1,none⟩) (Kd.g_7 (p:=⟨c_1,0,none⟩) (Kd.b_X g_C.out (fun k_ hk => (⟨hk,hk.2⟩ : _ ∧ k_ ≠ c_1))) (fun _ hk => hk.2) (.slice Ao47 t262.length co47)) (fun _ hk => hk.2) (.int .i64 t265)) (fun _ hk => ⟨hk.1.1.1,⟨hk.1.1.2.1,⟨hk.1.1.2.2.1,⟨hk.1.1.2.2.2.1,⟨hk.1.1.2.2.2.2,hk.1.2⟩⟩⟩⟩⟩)))⟩;replace a_0 : a_e (w53.heap[b_D]? = some (.cells #[.slice A0_0 l0_0.length c0_0,.int .i64 a0_1] 24 (0,0))):=⟨(by rw [hw];exact (by (with_reducible repeat (first|refine a_j ?_ _|refine a_k ?_|refine a_i ?_ _));refine a_B ?_ d_b.out _;(with_reducible repeat (first|refine a_j ?_ _|refine a_k ?_|refine a_i ?_ _));refine a_B ?_ d_b.out _;(with_reducible repeat (first|refine a_j ?_ _|refine a_k ?_|refine a_i ?_ _));exact a_0.out))⟩;replace b_p : a_e (w53.heap[c_T]? = some (.cells #[.int .i64 a1_0,.slice A1_1 l1_1.length c1_1] 27 (0,0))):=⟨(by rw [hw];exact (by (with_reducible repeat (first|refine a_j ?_ _|refine a_k ?_|refine a_i ?_ _));refine a_B ?_ f_R.out _;(with_reducible repeat (first|refine a_j ?_ _|refine a_k ?_|refine a_i ?_ _));refine a_B ?_ f_R.out _;(with_reducible repeat (first|refine a_j ?_ _|refine a_k ?_|refine a_i ?_ _));exact b_p.out))⟩;replace b_d : a_e (w53.heap[b_4]? = some (.cells #[.slice Ao29 t251.length co29,.int .i64 t254] 24 (0,0))):=⟨(by rw [hw];exact (by (with_reducible repeat (first|refine a_j ?_ _|refine a_k ?_|refine a_i ?_ _));refine a_B ?_ d_c.out _;(with_reducible repeat (first|refine a_j ?_ _|refine a_k ?_|refine a_i ?_ _));refine a_B ?_ d_c.out _;(with_reducible repeat (first|refine a_j ?_ _|refine a_k ?_|refine a_i ?_ _));exact b_d.out))⟩;replace b_O : a_e (w53.heap[c_7]? = some (.cells #[.slice Ao38 t256.length co38,.int .i64 t259] 24 (0,0))):=⟨(by rw [hw];exact (by (with_reducible repeat (first|refine a_j ?_ _|refine a_k ?_|refine a_i ?_ _));refine a_B ?_ e_5.out _;(with_reducible repeat (first|refine a_j ?_ _|refine a_k ?_|refine a_i ?_ _));refine a_B ?_ e_5.out _;(with_reducible repeat (first|refine a_j ?_ _|refine a_k ?_|refine a_i ?_ _));exact b_O.out))⟩;replace b_U : a_e (w53.heap[c_1]? = some (.cells #[.slice Ao47 t262.length co47,.int .i64 t265] 24 (0,0))):=⟨(by rw [hw];exact (by (with_reducible repeat (first|refine a_j ?_ _|refine a_k ?_|refine a_i ?_ _));refine a_J (cs:=#[.slice Ao47 t262.length co47,.int .i64 0]) ?_ 1 _ rfl;(with_reducible repeat (first|refine a_j ?_ _|refine a_k ?_|refine a_i ?_ _));refine a_J (cs:=#[.slice none 0 0,.int .i64 0]) ?_ 0 _ rfl;(with_reducible repeat (first|refine a_j ?_ _|refine a_k ?_|refine a_i ?_ _));exact b_U.out))⟩;replace HB : a_e (Below w.heap.size w w53):=⟨(by rw [hw];exact (by repeat (first|(with_reducible first|exact HB.out|apply a_g|apply a_f|apply a_h|refine a_d ?_ b_W.out|refine a_d ?_ b_2.out|refine a_d ?_ c_k.out|refine a_d ?_ c_M.out|refine a_d ?_ c_3.out)|exact HB.out)))⟩;clear hw;have q_n : w53.cell? ⟨b_D,0,none⟩ = some (.slice A0_0 l0_0.length c0_0):=(a_a a_0.out 0).trans rfl;have q_o : w53.cell? ⟨b_D,1,none⟩ = some (.int .i64 a0_1):=(a_a a_0.out 1).trans rfl;have q_p:=a_b a_0.out 0;have q_q:=a_b a_0.out 1;have u_4 : w53.cell? ⟨c_T,0,none⟩ = some (.int .i64 a1_0):=(a_a b_p.out 0).trans rfl;have u_5 : w53.cell? ⟨c_T,1,none⟩ = some (.slice A1_1 l1_1.length c1_1):=(a_a b_p.out 1).trans rfl;have u_6:=a_b b_p.out 0;have u_7:=a_b b_p.out 1)|((with_reducible refine a_P (f:=12) rfl ?_);refine b_v (some 42) rfl rfl Try.func12 (by kernel_rfl) rfl #[.agg #[.slice A0_0 l0_0.length c0_0,.int .i64 a0_1],.agg #[.int .i64 a1_0,.slice A1_1 l1_1.length c1_1]] rfl (by (try simp only [List.map_toArray,List.map_cons,List.map_nil]);first|done|rfl|(simp only [List.length_drop,List.length_take];rfl)) ?_;(with_reducible refine (a_v.calls kj5 (fun k_ => k_ < w.heap.size) _ _ l0_0 a0_1 a1_0 (fun k_ => k_ < w.heap.size) _ _ l1_1 t268 t271 t272 _ ?side1 ?side2 A23.out).mono ?_);(case side1 => exact Kd.V_mk f_w.out (Kd.h_b (Kd.C_F q_Q c_V.out) (by repeat (first|(with_reducible first|exact HB.out|apply a_g|apply a_f|apply a_h|refine a_d ?_ b_W.out|refine a_d ?_ b_2.out|refine a_d ?_ c_k.out|refine a_d ?_ c_M.out|refine a_d ?_ c_3.out)|exact HB.out))));(case side2 => exact Kd.V_mk w_L.out (Kd.h_b (Kd.C_F k_D w_K.out) (by repeat (first|(with_reducible first|exact HB.out|apply a_g|apply a_f|apply a_h|refine a_d ?_ b_W.out|refine a_d ?_ b_2.out|refine a_d ?_ c_k.out|refine a_d ?_ c_M.out|refine a_d ?_ c_3.out)|exact HB.out))));rintro e w56 ⟨v269,rfl,ho0,hb⟩;refine ⟨_,rfl,?_⟩;have g_3:=a_e.mk (Kd.i_e (Kd.b_P (ok':=fun k_ => some k_ ≠ (.slice Ao29 t251.length co29 : Value).ownBlock ∧ some k_ ≠ (.slice Ao38 t256.length co38 : Value).ownBlock ∧ k_ ≠ b_D ∧ k_ ≠ c_T ∧ k_ ≠ b_4 ∧ k_ ≠ c_7 ∧ k_ ≠ c_1) ho0 (fun k_ hk_ => ⟨Or.elim hk_ (fun hs_ => Or.elim hs_ (fun hs_ => fun e_ => Nat.not_le.2 hs_ (Kd.g_H e_m.out k_ e_.symm)) (fun hs_ => fun e_ => Nat.not_le.2 hs_ (Kd.g_H e_m.out k_ e_.symm))) (fun hn_ => (Kd.fresh' (Kd.N_lt (by (with_reducible repeat (first|apply Kd.a_R|apply Kd.a_S|apply Kd.a_Z));exact e_m.out)) k_ hn_)),Or.elim hk_ (fun hs_ => Or.elim hs_ (fun hs_ => fun e_ => Nat.not_le.2 hs_ (Kd.g_H e_H.out k_ e_.symm)) (fun hs_ => fun e_ => Nat.not_le.2 hs_ (Kd.g_H e_H.out k_ e_.symm))) (fun hn_ => (Kd.fresh' (Kd.N_lt (by (with_reducible repeat (first|apply Kd.a_R|apply Kd.a_S|apply Kd.a_Z));exact e_H.out)) k_ hn_)),Or.elim hk_ (fun hs_ => Or.elim hs_ (fun hs_ => fun e_ => Nat.not_le.2 hs_ (by rw [e_];exact r_E.out)) (fun hs_ => fun e_ => Nat.not_le.2 hs_ (by rw [e_];exact r_E.out))) (fun hn_ => (Kd.d_g (g:=b_D) (o:=.cells #[.slice A0_0 l0_0.length c0_0,.int .i64 a0_1] 24 (0,0)) (bup_ a_0.out) k_ hn_)),Or.elim hk_ (fun hs_ => Or.elim hs_ (fun hs_ => fun e_ => Nat.not_le.2 hs_ (by rw [e_];exact r_F.out)) (fun hs_ => fun e_ => Nat.not_le.2 hs_ (by rw [e_];exact r_F.out))) (fun hn_ => (Kd.d_g (g:=c_T) (o:=.cells #[.int .i64 a1_0,.slice A1_1 l1_1.length c1_1] 27 (0,0)) (bup_ b_p.out) k_ hn_)),Or.elim hk_ (fun hs_ => Or.elim hs_ (fun hs_ => fun e_ => Nat.not_le.2 hs_ (by rw [e_];exact u_3.out)) (fun hs_ => fun e_ => Nat.not_le.2 hs_ (by rw [e_];exact u_3.out))) (fun hn_ => (Kd.d_g (g:=b_4) (o:=.cells #[.slice Ao29 t251.length co29,.int .i64 t254] 24 (0,0)) (bup_ b_d.out) k_ hn_)),Or.elim hk_ (fun hs_ => Or.elim hs_ (fun hs_ => fun e_ => Nat.not_le.2 hs_ (by rw [e_];exact w_M.out)) (fun hs_ => fun e_ => Nat.not_le.2 hs_ (by rw [e_];exact w_M.out))) (fun hn_ => (Kd.d_g (g:=c_7) (o:=.cells #[.slice Ao38 t256.length co38,.int .i64 t259] 24 (0,0)) (bup_ b_O.out) k_ hn_)),Or.elim hk_ (fun hs_ => Or.elim hs_ (fun hs_ => fun e_ => Nat.not_le.2 hs_ (by rw [e_];exact w_N.out)) (fun hs_ => fun e_ => Nat.not_le.2 hs_ (by rw [e_];exact w_N.out))) (fun hn_ => (Kd.d_g (g:=c_1) (o:=.cells #[.slice Ao47 t262.length co47,.int .i64 t265] 24 (0,0)) (bup_ b_U.out) k_ hn_))⟩)) (a_p (by repeat (first|(with_reducible first|exact HB.out|apply a_g|apply a_f|apply a_h|refine a_d ?_ b_W.out|refine a_d ?_ b_2.out|refine a_d ?_ c_k.out|refine a_d ?_ c_M.out|refine a_d ?_ c_3.out)|exact HB.out))));replace e_m:=a_e.mk (Kd.h_K (by (with_reducible repeat (first|apply Kd.a_R|apply Kd.a_S|apply Kd.a_Z));exact e_m.out) (Kd.g_H ho0) hb);replace e_H:=a_e.mk (Kd.h_K (by (with_reducible repeat (first|apply Kd.a_R|apply Kd.a_S|apply Kd.a_Z));exact e_H.out) (Kd.g_H ho0) hb);replace g_C:=a_e.mk (Kd.g_X (by (with_reducible repeat (first|apply Kd.a_Q|apply Kd.a_O|apply Kd.a_W));exact g_C.out) (Kd.g_H ho0) hb);replace a_0:=a_e.mk (a_l (bup_ a_0.out) hb);replace b_p:=a_e.mk (a_l (bup_ b_p.out) hb);replace b_d:=a_e.mk (a_l (bup_ b_d.out) hb);replace b_O:=a_e.mk (a_l (bup_ b_O.out) hb);replace b_U:=a_e.mk (a_l (bup_ b_U.out) hb);replace HB:=a_e.mk (a_t (by repeat (first|(with_reducible first|exact HB.out|apply a_g|apply a_f|apply a_h|refine a_d ?_ b_W.out|refine a_d ?_ b_2.out|refine a_d ?_ c_k.out|refine a_d ?_ c_M.out|refine a_d ?_ c_3.out)|exact HB.out)) hb);(try clear hb);(try clear hb2);(try clear hk);(try clear hi);(try clear ho0))|((with_reducible refine a_U (N:=12) rfl ?_);(try (refine c_P (by rfl) ?_;dsimp only));refine a_H ?hg (N:=12) ?hd (cs:=#[.slice none 0 0,.int .i64 0]) (t:=24) ?hr ?_;(case hd => rfl);(case hg => rfl);(case hr => first|(go_simp;done)|(go_simp;rfl));intro b_0 hg w57 hbox hb;have b_9:=a_e.mk (hbox);have O_7:=a_e.mk ((by rw [hg];exact (a_p (by repeat (first|(with_reducible first|exact HB.out|apply a_g|apply a_f|apply a_h|refine a_d ?_ b_W.out|refine a_d ?_ b_2.out|refine a_d ?_ c_k.out|refine a_d ?_ c_M.out|refine a_d ?_ c_3.out)|exact HB.out))) : w.heap.size ≤ b_0));have d_O:=a_e.mk ((by rw [hg];exact (a_p (by repeat (first|(with_reducible first|exact HB.out|apply a_g|apply a_f|apply a_h|refine a_d ?_ b_W.out|refine a_d ?_ b_2.out|refine a_d ?_ c_k.out|refine a_d ?_ c_M.out|refine a_d ?_ c_3.out)|exact HB.out))) : w.heap.size ≤ b_0));have c_l:=a_e.mk ((by rw [hg];exact Nat.ne_of_lt (a_N (bup_ a_0.out)) : b_D ≠ b_0));have d_C:=a_e.mk ((by rw [hg];exact Nat.ne_of_gt (a_N (bup_ a_0.out)) : b_0 ≠ b_D));have e_6:=a_e.mk ((by rw [hg];exact Nat.ne_of_lt (a_N (bup_ b_p.out)) : c_T ≠ b_0));have k_b:=a_e.mk ((by rw [hg];exact Nat.ne_of_gt (a_N (bup_ b_p.out)) : b_0 ≠ c_T));have c_m:=a_e.mk ((by rw [hg];exact Nat.ne_of_lt (a_N (bup_ b_d.out)) : b_4 ≠ b_0));have d_D:=a_e.mk ((by rw [hg];exact Nat.ne_of_gt (a_N (bup_ b_d.out)) : b_0 ≠ b_4));have e_7:=a_e.mk ((by rw [hg];exact Nat.ne_of_lt (a_N (bup_ b_O.out)) : c_7 ≠ b_0));have k_d:=a_e.mk ((by rw [hg];exact Nat.ne_of_gt (a_N (bup_ b_O.out)) : b_0 ≠ c_7));have d_Z:=a_e.mk ((by rw [hg];exact Nat.ne_of_lt (a_N (bup_ b_U.out)) : c_1 ≠ b_0));have f_T:=a_e.mk ((by rw [hg];exact Nat.ne_of_gt (a_N (bup_ b_U.out)) : b_0 ≠ c_1));replace e_m:=a_e.mk (Kd.a_2 (Kd.f_v (by (with_reducible repeat (first|apply Kd.a_R|apply Kd.a_S|apply Kd.a_Z));exact e_m.out) b_0 (Nat.le_of_eq hg.symm)) hb);replace e_H:=a_e.mk (Kd.a_2 (Kd.f_v (by (with_reducible repeat (first|apply Kd.a_R|apply Kd.a_S|apply Kd.a_Z));exact e_H.out) b_0 (Nat.le_of_eq hg.symm)) hb);replace g_C:=a_e.mk (Kd.a_3 (Kd.b_q (by (with_reducible repeat (first|apply Kd.a_Q|apply Kd.a_O|apply Kd.a_W));exact g_C.out) b_0 (Nat.le_of_eq hg.symm)) hb);replace g_3:=a_e.mk (Kd.a_2 (Kd.f_v (by (with_reducible repeat (first|apply Kd.a_R|apply Kd.a_S|apply Kd.a_Z));exact g_3.out) b_0 (Nat.le_of_eq hg.symm)) hb);replace a_0:=a_e.mk (a_l (bup_ a_0.out) hb);replace b_p:=a_e.mk (a_l (bup_ b_p.out) hb);replace b_d:=a_e.mk (a_l (bup_ b_d.out) hb);replace b_O:=a_e.mk (a_l (bup_ b_O.out) hb);replace b_U:=a_e.mk (a_l (bup_ b_U.out) hb);replace HB:=a_e.mk (a_t (by repeat (first|(with_reducible first|exact HB.out|apply a_g|apply a_f|apply a_h|refine a_d ?_ b_W.out|refine a_d ?_ b_2.out|refine a_d ?_ c_k.out|refine a_d ?_ c_M.out|refine a_d ?_ c_3.out)|exact HB.out)) hb);clear hb hbox hg;obtain ⟨Ao58,co58,eo58⟩:=Kd.f_A g_3.out;subst eo58;have O_8:=d_C.out;have O_9:=c_l.out;have B_p:=k_b.out;have B_q:=e_6.out;have w_w:=d_D.out;have w_x:=c_m.out;have F_k:=k_d.out;have F_l:=e_7.out;have P_a:=f_T.out;have P_b:=d_Z.out;have q_f : w57.cell? ⟨b_0,0,none⟩ = some (.slice none 0 0):=(a_a b_9.out 0).trans rfl;have q_g : w57.cell? ⟨b_0,1,none⟩ = some (.int .i64 0):=(a_a b_9.out 1).trans rfl;have q_h:=a_b b_9.out 0;have q_i:=a_b b_9.out 1))
   (try simp only [Act.put,sa_,sb_,sc_])
   go_cut [59] (fun v59 wc => ∃ (kq : Nat) (x59_23 : Bool),v59 = .bool x59_23 ∧ a_e (a_u.j1 kq a2 t266 x59_23 l0_0 a0_1 t251 t254 t262 t265 = some r) ∧ a_e (kq ≤ kj5) ∧ a_e (Kd.N k27 27 wc w.heap.size (fun k_ => some k_ ≠ ((.slice Ao38 t256.length co38) : Value).ownBlock ∧ some k_ ≠ ((.slice Ao58 t268.length co58) : Value).ownBlock ∧ k_ ≠ b_D ∧ k_ ≠ c_T ∧ k_ ≠ b_4 ∧ k_ ≠ c_7 ∧ k_ ≠ c_1 ∧ k_ ≠ b_0) (.slice Ao29 t251.length co29) t251) ∧ a_e (Kd.N k27 27 wc w.heap.size (fun k_ => some k_ ≠ ((.slice Ao58 t268.length co58) : Value).ownBlock ∧ k_ ≠ b_D ∧ k_ ≠ c_T ∧ k_ ≠ b_4 ∧ k_ ≠ c_7 ∧ k_ ≠ c_1 ∧ k_ ≠ b_0) (.slice Ao38 t256.length co38) t256) ∧ a_e (Kd.V k27 27 wc w.heap.size (fun k_ => some k_ ≠ ((.slice Ao38 t256.length co38) : Value).ownBlock ∧ some k_ ≠ ((.slice Ao58 t268.length co58) : Value).ownBlock ∧ k_ ≠ b_D ∧ k_ ≠ c_T ∧ k_ ≠ b_4 ∧ k_ ≠ c_7 ∧ k_ ≠ c_1 ∧ k_ ≠ b_0) (.slice Ao47 t262.length co47) t262) ∧ a_e (Kd.N k27 27 wc w.heap.size (fun k_ => some k_ ≠ ((.slice Ao29 t251.length co29) : Value).ownBlock ∧ some k_ ≠ ((.slice Ao38 t256.length co38) : Value).ownBlock ∧ k_ ≠ b_D ∧ k_ ≠ c_T ∧ k_ ≠ b_4 ∧ k_ ≠ c_7 ∧ k_ ≠ c_1 ∧ k_ ≠ b_0) (.slice Ao58 t268.length co58) t268) ∧ a_e (wc.heap[b_D]? = some (.cells #[(.slice A0_0 l0_0.length c0_0),.int .i64 a0_1] 24 (0,0))) ∧ a_e (wc.heap[c_T]? = some (.cells #[.int .i64 a1_0,(.slice A1_1 l1_1.length c1_1)] 27 (0,0))) ∧ a_e (wc.heap[b_4]? = some (.cells #[(.slice Ao29 t251.length co29),.int .i64 t254] 24 (0,0))) ∧ a_e (wc.heap[c_7]? = some (.cells #[(.slice Ao38 t256.length co38),.int .i64 t259] 24 (0,0))) ∧ a_e (wc.heap[c_1]? = some (.cells #[(.slice Ao47 t262.length co47),.int .i64 t265] 24 (0,0))) ∧ a_e (wc.heap[b_0]? = some (.cells #[(.slice Ao58 t268.length co58),.int .i64 t271] 24 (0,0))) ∧ a_e (Below w.heap.size w wc))
   case first =>
    have H:=HC24.out
    clear HC24
    by_cases c65 : t260 = t272
    rotate_left
    ·rw [if_neg c65] at H
     have c65b0 : (t260 == t272) = false:=beq_eq_false_iff_ne.mpr c65
     have c65b1 : (t260 != t272) = true:=bne_iff_ne.mpr c65
     (first|rw [c65b0]|(simp only [a_r,a_s];rw [c65b0])|skip)
     have H':=a_e.mk H
     clear H
     go_wp2
     go_meet
     case rel => exact ⟨_,(true),(by first|rfl|(simp;done)|(simp [*];done)),H',⟨by have:=HJ5.out;first|omega|exact Nat.le_refl _⟩,⟨by (with_reducible repeat (first|apply Kd.a_R|apply Kd.a_S|apply Kd.a_Z));exact Kd.b_P (Kd.d_E (p:=⟨b_0,1,none⟩) (Kd.d_E (p:=⟨b_0,0,none⟩) (Kd.b_P e_m.out (fun k_ hk => (⟨hk,hk.2⟩ : _ ∧ k_ ≠ b_0))) (fun _ hk => hk.2) (.slice Ao58 t268.length co58)) (fun _ hk => hk.2) (.int .i64 t271)) (fun _ hk => ⟨hk.1.1.1.1,⟨hk.1.1.2,⟨hk.1.1.1.2.1,⟨hk.1.1.1.2.2.1,⟨hk.1.1.1.2.2.2.1,⟨hk.1.1.1.2.2.2.2.1,⟨hk.1.1.1.2.2.2.2.2,hk.1.2⟩⟩⟩⟩⟩⟩⟩)⟩,⟨by (with_reducible repeat (first|apply Kd.a_R|apply Kd.a_S|apply Kd.a_Z));exact Kd.b_P (Kd.d_E (p:=⟨b_0,1,none⟩) (Kd.d_E (p:=⟨b_0,0,none⟩) (Kd.b_P e_H.out (fun k_ hk => (⟨hk,hk.2⟩ : _ ∧ k_ ≠ b_0))) (fun _ hk => hk.2) (.slice Ao58 t268.length co58)) (fun _ hk => hk.2) (.int .i64 t271)) (fun _ hk => ⟨hk.1.1.2,⟨hk.1.1.1.1,⟨hk.1.1.1.2.1,⟨hk.1.1.1.2.2.1,⟨hk.1.1.1.2.2.2.1,⟨hk.1.1.1.2.2.2.2,hk.1.2⟩⟩⟩⟩⟩⟩)⟩,⟨by (with_reducible repeat (first|apply Kd.a_Q|apply Kd.a_O|apply Kd.a_W));exact Kd.b_X (Kd.g_7 (p:=⟨b_0,1,none⟩) (Kd.g_7 (p:=⟨b_0,0,none⟩) (Kd.b_X g_C.out (fun k_ hk => (⟨hk,hk.2⟩ : _ ∧ k_ ≠ b_0))) (fun _ hk => hk.2) (.slice Ao58 t268.length co58)) (fun _ hk => hk.2) (.int .i64 t271)) (fun _ hk => ⟨hk.1.1.1.1,⟨hk.1.1.2,⟨hk.1.1.1.2.1,⟨hk.1.1.1.2.2.1,⟨hk.1.1.1.2.2.2.1,⟨hk.1.1.1.2.2.2.2.1,⟨hk.1.1.1.2.2.2.2.2,hk.1.2⟩⟩⟩⟩⟩⟩⟩)⟩,⟨by (with_reducible repeat (first|apply Kd.a_R|apply Kd.a_S|apply Kd.a_Z));exact Kd.b_P (Kd.d_E (p:=⟨b_0,1,none⟩) (Kd.d_E (p:=⟨b_0,0,none⟩) (Kd.b_P g_3.out (fun k_ hk => (⟨hk,hk.2⟩ : _ ∧ k_ ≠ b_0))) (fun _ hk => hk.2) (.slice Ao58 t268.length co58)) (fun _ hk => hk.2) (.int .i64 t271)) (fun _ hk => ⟨hk.1.1.1,⟨hk.1.1.2.1,⟨hk.1.1.2.2.1,⟨hk.1.1.2.2.2.1,⟨hk.1.1.2.2.2.2.1,⟨hk.1.1.2.2.2.2.2.1,⟨hk.1.1.2.2.2.2.2.2,hk.1.2⟩⟩⟩⟩⟩⟩⟩)⟩,⟨by (with_reducible repeat (first|refine a_j ?_ _|refine a_k ?_|refine a_i ?_ _));refine a_B ?_ c_l.out _;(with_reducible repeat (first|refine a_j ?_ _|refine a_k ?_|refine a_i ?_ _));refine a_B ?_ c_l.out _;(with_reducible repeat (first|refine a_j ?_ _|refine a_k ?_|refine a_i ?_ _));exact a_0.out⟩,⟨by (with_reducible repeat (first|refine a_j ?_ _|refine a_k ?_|refine a_i ?_ _));refine a_B ?_ e_6.out _;(with_reducible repeat (first|refine a_j ?_ _|refine a_k ?_|refine a_i ?_ _));refine a_B ?_ e_6.out _;(with_reducible repeat (first|refine a_j ?_ _|refine a_k ?_|refine a_i ?_ _));exact b_p.out⟩,⟨by (with_reducible repeat (first|refine a_j ?_ _|refine a_k ?_|refine a_i ?_ _));refine a_B ?_ c_m.out _;(with_reducible repeat (first|refine a_j ?_ _|refine a_k ?_|refine a_i ?_ _));refine a_B ?_ c_m.out _;(with_reducible repeat (first|refine a_j ?_ _|refine a_k ?_|refine a_i ?_ _));exact b_d.out⟩,⟨by (with_reducible repeat (first|refine a_j ?_ _|refine a_k ?_|refine a_i ?_ _));refine a_B ?_ e_7.out _;(with_reducible repeat (first|refine a_j ?_ _|refine a_k ?_|refine a_i ?_ _));refine a_B ?_ e_7.out _;(with_reducible repeat (first|refine a_j ?_ _|refine a_k ?_|refine a_i ?_ _));exact b_O.out⟩,⟨by (with_reducible repeat (first|refine a_j ?_ _|refine a_k ?_|refine a_i ?_ _));refine a_B ?_ d_Z.out _;(with_reducible repeat (first|refine a_j ?_ _|refine a_k ?_|refine a_i ?_ _));refine a_B ?_ d_Z.out _;(with_reducible repeat (first|refine a_j ?_ _|refine a_k ?_|refine a_i ?_ _));exact b_U.out⟩,⟨by (with_reducible repeat (first|refine a_j ?_ _|refine a_k ?_|refine a_i ?_ _));refine a_J (cs:=#[.slice Ao58 t268.length co58,.int .i64 0]) ?_ 1 _ rfl;(with_reducible repeat (first|refine a_j ?_ _|refine a_k ?_|refine a_i ?_ _));refine a_J (cs:=#[.slice none 0 0,.int .i64 0]) ?_ 0 _ rfl;(with_reducible repeat (first|refine a_j ?_ _|refine a_k ?_|refine a_i ?_ _));exact b_9.out⟩,⟨by repeat (first|(with_reducible first|exact HB.out|apply a_g|apply a_f|apply a_h|refine a_d ?_ b_W.out|refine a_d ?_ b_2.out|refine a_d ?_ c_k.out|refine a_d ?_ c_M.out|refine a_d ?_ c_3.out|refine a_d ?_ d_O.out)|exact HB.out)⟩⟩
    rw [if_pos c65] at H
    have c65b0 : (t260 == t272) = true:=beq_iff_eq.mpr c65
    have c65b1 : (t260 != t272) = false:=bne_eq_false_iff_eq.mpr c65
    clear c65
    (first|rw [c65b0]|(simp only [a_r,a_s];rw [c65b0])|skip)
    replace H:=Option.bind_eq_some_iff.mp H
    obtain ⟨t274,A660,H⟩:=H
    replace H : (if t274 = true then ((a_z.f kj5 t251 t254 l0_0 a0_1).bind fun t275 => (a_u.j1 kj5 a2 t266 (!t275) l0_0 a0_1 t251 t254 t262 t265)) else (a_u.j1 kj5 a2 t266 true l0_0 a0_1 t251 t254 t262 t265)) = some r:=H
    have A66:=a_e.mk A660
    clear A660
    by_cases c67 : t274 = true
    rotate_left
    ·replace c67:=Bool.eq_false_iff.mpr c67
     subst c67
     have H1 : (a_u.j1 kj5 a2 t266 true l0_0 a0_1 t251 t254 t262 t265) = some r:=by rw [if_neg (show ¬ (false = true) by decide)] at H;exact H
     clear H
     have H:=H1
     clear H1
     have H':=a_e.mk H
     clear H
     have P_c:=d_A.out
     have P_d:=c_Z.out
     have P_e:=k_a.out
     have P_f:=g_S.out
     have P_g:=d_B.out
     have P_h:=c_0.out
     have P_i:=e_5.out
     have P_j:=f_S.out
     have P_k:=e_7.out
     have P_l:=k_d.out
     have u_8 : w57.cell? ⟨c_7,0,none⟩ = some (.slice Ao38 t256.length co38):=(a_a b_O.out 0).trans rfl
     have u_9 : w57.cell? ⟨c_7,1,none⟩ = some (.int .i64 t259):=(a_a b_O.out 1).trans rfl
     have v_a:=a_b b_O.out 0
     have v_b:=a_b b_O.out 1
     have P_m:=d_C.out
     have P_n:=c_l.out
     have P_o:=k_b.out
     have P_p:=e_6.out
     have P_q:=d_D.out
     have P_r:=c_m.out
     have P_s:=f_T.out
     have P_t:=d_Z.out
     have v_c : w57.cell? ⟨b_0,0,none⟩ = some (.slice none 0 0):=(a_a b_9.out 0).trans rfl
     have v_d : w57.cell? ⟨b_0,1,none⟩ = some (.int .i64 0):=(a_a b_9.out 1).trans rfl
     have v_e:=a_b b_9.out 0
     have v_f:=a_b b_9.out 1
     go_wp2_with (first|(go_at_call 13;(with_reducible refine (a_z.calls kj5 _ _ t256 t259 _ _ t268 t271 false _ ?side1 ?side2 ?side3 ?side4 A66.out).mono ?_);(case side1 => refine (Kd.b_A (e:=27) (base:=w.heap.size) (ok:=fun k_ => (((k_ ≠ b_D ∧ (k_ ≠ c_T ∧ (k_ ≠ b_4 ∧ (k_ ≠ c_7 ∧ k_ ≠ c_1)))) ∧ some k_ ≠ (.slice Ao58 t268.length co58 : Value).ownBlock) ∧ k_ ≠ b_0)) (n:=t256.length) (c:=co38) ?_).2.2;exact (by (with_reducible repeat (first|apply Kd.a_R|apply Kd.a_S|apply Kd.a_Z));exact (Kd.b_P (Kd.d_E (p:=⟨b_0,1,none⟩) (Kd.d_E (p:=⟨b_0,0,none⟩) (Kd.b_P e_H.out (fun k_ hk => (⟨hk,hk.2⟩ : _ ∧ k_ ≠ b_0))) (fun _ hk => hk.2) (.slice Ao58 t268.length co58)) (fun _ hk => hk.2) (.int .i64 t271)) (fun _ h_ => h_.1))));(case side2 => exact (Kd.b_A e_H.out).2.1);(case side3 => refine (Kd.b_A (e:=27) (base:=w.heap.size) (ok:=fun k_ => ((some k_ ≠ (.slice Ao29 t251.length co29 : Value).ownBlock ∧ (some k_ ≠ (.slice Ao38 t256.length co38 : Value).ownBlock ∧ (k_ ≠ b_D ∧ (k_ ≠ c_T ∧ (k_ ≠ b_4 ∧ (k_ ≠ c_7 ∧ k_ ≠ c_1)))))) ∧ k_ ≠ b_0)) (n:=t268.length) (c:=co58) ?_).2.2;exact (by (with_reducible repeat (first|apply Kd.a_R|apply Kd.a_S|apply Kd.a_Z));exact (Kd.b_P (Kd.d_E (p:=⟨b_0,1,none⟩) (Kd.d_E (p:=⟨b_0,0,none⟩) (Kd.b_P g_3.out (fun k_ hk => (⟨hk,hk.2⟩ : _ ∧ k_ ≠ b_0))) (fun _ hk => hk.2) (.slice Ao58 t268.length co58)) (fun _ hk => hk.2) (.int .i64 t271)) (fun _ h_ => h_.1))));(case side4 => exact (Kd.b_A g_3.out).2.1);rintro e w100 ⟨rfl,hb⟩;replace e_m:=a_e.mk (Kd.a_2 (by (with_reducible repeat (first|apply Kd.a_R|apply Kd.a_S|apply Kd.a_Z));exact (Kd.b_P (Kd.d_E (p:=⟨b_0,1,none⟩) (Kd.d_E (p:=⟨b_0,0,none⟩) (Kd.b_P e_m.out (fun k_ hk => (⟨hk,hk.2⟩ : _ ∧ k_ ≠ b_0))) (fun _ hk => hk.2) (.slice Ao58 t268.length co58)) (fun _ hk => hk.2) (.int .i64 t271)) (fun _ h_ => h_.1))) hb);replace e_H:=a_e.mk (Kd.a_2 (by (with_reducible repeat (first|apply Kd.a_R|apply Kd.a_S|apply Kd.a_Z));exact (Kd.b_P (Kd.d_E (p:=⟨b_0,1,none⟩) (Kd.d_E (p:=⟨b_0,0,none⟩) (Kd.b_P e_H.out (fun k_ hk => (⟨hk,hk.2⟩ : _ ∧ k_ ≠ b_0))) (fun _ hk => hk.2) (.slice Ao58 t268.length co58)) (fun _ hk => hk.2) (.int .i64 t271)) (fun _ h_ => h_.1))) hb);replace g_C:=a_e.mk (Kd.a_3 (by (with_reducible repeat (first|apply Kd.a_Q|apply Kd.a_O|apply Kd.a_W));exact (Kd.b_X (Kd.g_7 (p:=⟨b_0,1,none⟩) (Kd.g_7 (p:=⟨b_0,0,none⟩) (Kd.b_X g_C.out (fun k_ hk => (⟨hk,hk.2⟩ : _ ∧ k_ ≠ b_0))) (fun _ hk => hk.2) (.slice Ao58 t268.length co58)) (fun _ hk => hk.2) (.int .i64 t271)) (fun _ h_ => h_.1))) hb);replace g_3:=a_e.mk (Kd.a_2 (by (with_reducible repeat (first|apply Kd.a_R|apply Kd.a_S|apply Kd.a_Z));exact (Kd.b_P (Kd.d_E (p:=⟨b_0,1,none⟩) (Kd.d_E (p:=⟨b_0,0,none⟩) (Kd.b_P g_3.out (fun k_ hk => (⟨hk,hk.2⟩ : _ ∧ k_ ≠ b_0))) (fun _ hk => hk.2) (.slice Ao58 t268.length co58)) (fun _ hk => hk.2) (.int .i64 t271)) (fun _ h_ => h_.1))) hb);replace a_0:=a_e.mk (a_l (g:=b_D) (o:=.cells #[.slice A0_0 l0_0.length c0_0,.int .i64 a0_1] 24 (0,0)) (by (with_reducible repeat (first|refine a_j ?_ _|refine a_k ?_|refine a_i ?_ _));refine a_B ?_ c_l.out _;(with_reducible repeat (first|refine a_j ?_ _|refine a_k ?_|refine a_i ?_ _));refine a_B ?_ c_l.out _;(with_reducible repeat (first|refine a_j ?_ _|refine a_k ?_|refine a_i ?_ _));exact a_0.out) hb);replace b_p:=a_e.mk (a_l (g:=c_T) (o:=.cells #[.int .i64 a1_0,.slice A1_1 l1_1.length c1_1] 27 (0,0)) (by (with_reducible repeat (first|refine a_j ?_ _|refine a_k ?_|refine a_i ?_ _));refine a_B ?_ e_6.out _;(with_reducible repeat (first|refine a_j ?_ _|refine a_k ?_|refine a_i ?_ _));refine a_B ?_ e_6.out _;(with_reducible repeat (first|refine a_j ?_ _|refine a_k ?_|refine a_i ?_ _));exact b_p.out) hb);replace b_d:=a_e.mk (a_l (g:=b_4) (o:=.cells #[.slice Ao29 t251.length co29,.int .i64 t254] 24 (0,0)) (by (with_reducible repeat (first|refine a_j ?_ _|refine a_k ?_|refine a_i ?_ _));refine a_B ?_ c_m.out _;(with_reducible repeat (first|refine a_j ?_ _|refine a_k ?_|refine a_i ?_ _));refine a_B ?_ c_m.out _;(with_reducible repeat (first|refine a_j ?_ _|refine a_k ?_|refine a_i ?_ _));exact b_d.out) hb);replace b_O:=a_e.mk (a_l (g:=c_7) (o:=.cells #[.slice Ao38 t256.length co38,.int .i64 t259] 24 (0,0)) (by (with_reducible repeat (first|refine a_j ?_ _|refine a_k ?_|refine a_i ?_ _));refine a_B ?_ e_7.out _;(with_reducible repeat (first|refine a_j ?_ _|refine a_k ?_|refine a_i ?_ _));refine a_B ?_ e_7.out _;(with_reducible repeat (first|refine a_j ?_ _|refine a_k ?_|refine a_i ?_ _));exact b_O.out) hb);replace b_U:=a_e.mk (a_l (g:=c_1) (o:=.cells #[.slice Ao47 t262.length co47,.int .i64 t265] 24 (0,0)) (by (with_reducible repeat (first|refine a_j ?_ _|refine a_k ?_|refine a_i ?_ _));refine a_B ?_ d_Z.out _;(with_reducible repeat (first|refine a_j ?_ _|refine a_k ?_|refine a_i ?_ _));refine a_B ?_ d_Z.out _;(with_reducible repeat (first|refine a_j ?_ _|refine a_k ?_|refine a_i ?_ _));exact b_U.out) hb);replace b_9:=a_e.mk (a_l (g:=b_0) (o:=.cells #[.slice Ao58 t268.length co58,.int .i64 t271] 24 (0,0)) (by (with_reducible repeat (first|refine a_j ?_ _|refine a_k ?_|refine a_i ?_ _));refine a_J (cs:=#[.slice Ao58 t268.length co58,.int .i64 0]) ?_ 1 _ rfl;(with_reducible repeat (first|refine a_j ?_ _|refine a_k ?_|refine a_i ?_ _));refine a_J (cs:=#[.slice none 0 0,.int .i64 0]) ?_ 0 _ rfl;(with_reducible repeat (first|refine a_j ?_ _|refine a_k ?_|refine a_i ?_ _));exact b_9.out) hb);replace HB:=a_e.mk (a_t (by repeat (first|(with_reducible first|exact HB.out|apply a_g|apply a_f|apply a_h|refine a_d ?_ b_W.out|refine a_d ?_ b_2.out|refine a_d ?_ c_k.out|refine a_d ?_ c_M.out|refine a_d ?_ c_3.out|refine a_d ?_ d_O.out)|exact HB.out)) hb);(try clear hb);(try clear hb2);(try clear hk);(try clear hi)))
     go_meet
     case rel => exact ⟨_,(true),(by first|rfl|(simp;done)|(simp [*];done)),H',⟨by have:=HJ5.out;first|omega|exact Nat.le_refl _⟩,⟨by (with_reducible repeat (first|apply Kd.a_R|apply Kd.a_S|apply Kd.a_Z));exact Kd.b_P e_m.out (fun _ hk => ⟨hk.1.1.1,⟨hk.1.2,⟨hk.1.1.2.1,⟨hk.1.1.2.2.1,⟨hk.1.1.2.2.2.1,⟨hk.1.1.2.2.2.2.1,⟨hk.1.1.2.2.2.2.2,hk.2⟩⟩⟩⟩⟩⟩⟩)⟩,⟨by (with_reducible repeat (first|apply Kd.a_R|apply Kd.a_S|apply Kd.a_Z));exact Kd.b_P e_H.out (fun _ hk => ⟨hk.1.2,⟨hk.1.1.1,⟨hk.1.1.2.1,⟨hk.1.1.2.2.1,⟨hk.1.1.2.2.2.1,⟨hk.1.1.2.2.2.2,hk.2⟩⟩⟩⟩⟩⟩)⟩,⟨by (with_reducible repeat (first|apply Kd.a_Q|apply Kd.a_O|apply Kd.a_W));exact Kd.b_X g_C.out (fun _ hk => ⟨hk.1.1.1,⟨hk.1.2,⟨hk.1.1.2.1,⟨hk.1.1.2.2.1,⟨hk.1.1.2.2.2.1,⟨hk.1.1.2.2.2.2.1,⟨hk.1.1.2.2.2.2.2,hk.2⟩⟩⟩⟩⟩⟩⟩)⟩,⟨by (with_reducible repeat (first|apply Kd.a_R|apply Kd.a_S|apply Kd.a_Z));exact Kd.b_P g_3.out (fun _ hk => ⟨hk.1.1,⟨hk.1.2.1,⟨hk.1.2.2.1,⟨hk.1.2.2.2.1,⟨hk.1.2.2.2.2.1,⟨hk.1.2.2.2.2.2.1,⟨hk.1.2.2.2.2.2.2,hk.2⟩⟩⟩⟩⟩⟩⟩)⟩,⟨by (with_reducible repeat (first|refine a_j ?_ _|refine a_k ?_|refine a_i ?_ _));exact a_0.out⟩,⟨by (with_reducible repeat (first|refine a_j ?_ _|refine a_k ?_|refine a_i ?_ _));exact b_p.out⟩,⟨by (with_reducible repeat (first|refine a_j ?_ _|refine a_k ?_|refine a_i ?_ _));exact b_d.out⟩,⟨by (with_reducible repeat (first|refine a_j ?_ _|refine a_k ?_|refine a_i ?_ _));exact b_O.out⟩,⟨by (with_reducible repeat (first|refine a_j ?_ _|refine a_k ?_|refine a_i ?_ _));exact b_U.out⟩,⟨by (with_reducible repeat (first|refine a_j ?_ _|refine a_k ?_|refine a_i ?_ _));exact b_9.out⟩,⟨by repeat (first|(with_reducible first|exact HB.out|apply a_g|apply a_f|apply a_h|refine a_d ?_ b_W.out|refine a_d ?_ b_2.out|refine a_d ?_ c_k.out|refine a_d ?_ c_M.out|refine a_d ?_ c_3.out|refine a_d ?_ d_O.out)|exact HB.out)⟩⟩
    subst c67
    have H1 : ((a_z.f kj5 t251 t254 l0_0 a0_1).bind fun t275 => (a_u.j1 kj5 a2 t266 (!t275) l0_0 a0_1 t251 t254 t262 t265)) = some r:=by rw [if_pos rfl] at H;exact H
    clear H
    have H:=H1
    clear H1
    replace H:=Option.bind_eq_some_iff.mp H
    obtain ⟨t275,A680,H⟩:=H
    replace H : (a_u.j1 kj5 a2 t266 (!t275) l0_0 a0_1 t251 t254 t262 t265) = some r:=H
    have A68:=a_e.mk A680
    clear A680
    have H':=a_e.mk H
    clear H
    have E_A:=d_A.out
    have E_B:=c_Z.out
    have P_u:=k_a.out
    have P_v:=g_S.out
    have P_w:=d_B.out
    have P_x:=c_0.out
    have B_k:=e_5.out
    have B_l:=f_S.out
    have w_q:=e_7.out
    have w_r:=k_d.out
    have m_C : w57.cell? ⟨c_7,0,none⟩ = some (.slice Ao38 t256.length co38):=(a_a b_O.out 0).trans rfl
    have m_D : w57.cell? ⟨c_7,1,none⟩ = some (.int .i64 t259):=(a_a b_O.out 1).trans rfl
    have m_E:=a_b b_O.out 0
    have m_F:=a_b b_O.out 1
    have P_y:=d_C.out
    have P_z:=c_l.out
    have w_s:=k_b.out
    have w_t:=e_6.out
    have P_A:=d_D.out
    have P_B:=c_m.out
    have P_C:=f_T.out
    have P_D:=d_Z.out
    have m_G : w57.cell? ⟨b_0,0,none⟩ = some (.slice none 0 0):=(a_a b_9.out 0).trans rfl
    have m_H : w57.cell? ⟨b_0,1,none⟩ = some (.int .i64 0):=(a_a b_9.out 1).trans rfl
    have m_I:=a_b b_9.out 0
    have m_J:=a_b b_9.out 1
    go_wp2_with (first|(go_at_call 13;(with_reducible refine (a_z.calls kj5 _ _ t256 t259 _ _ t268 t271 true _ ?side1 ?side2 ?side3 ?side4 A66.out).mono ?_);(case side1 => refine (Kd.b_A (e:=27) (base:=w.heap.size) (ok:=fun k_ => (((k_ ≠ b_D ∧ (k_ ≠ c_T ∧ (k_ ≠ b_4 ∧ (k_ ≠ c_7 ∧ k_ ≠ c_1)))) ∧ some k_ ≠ (.slice Ao58 t268.length co58 : Value).ownBlock) ∧ k_ ≠ b_0)) (n:=t256.length) (c:=co38) ?_).2.2;exact (by (with_reducible repeat (first|apply Kd.a_R|apply Kd.a_S|apply Kd.a_Z));exact (Kd.b_P (Kd.d_E (p:=⟨b_0,1,none⟩) (Kd.d_E (p:=⟨b_0,0,none⟩) (Kd.b_P e_H.out (fun k_ hk => (⟨hk,hk.2⟩ : _ ∧ k_ ≠ b_0))) (fun _ hk => hk.2) (.slice Ao58 t268.length co58)) (fun _ hk => hk.2) (.int .i64 t271)) (fun _ h_ => h_.1))));(case side2 => exact (Kd.b_A e_H.out).2.1);(case side3 => refine (Kd.b_A (e:=27) (base:=w.heap.size) (ok:=fun k_ => ((some k_ ≠ (.slice Ao29 t251.length co29 : Value).ownBlock ∧ (some k_ ≠ (.slice Ao38 t256.length co38 : Value).ownBlock ∧ (k_ ≠ b_D ∧ (k_ ≠ c_T ∧ (k_ ≠ b_4 ∧ (k_ ≠ c_7 ∧ k_ ≠ c_1)))))) ∧ k_ ≠ b_0)) (n:=t268.length) (c:=co58) ?_).2.2;exact (by (with_reducible repeat (first|apply Kd.a_R|apply Kd.a_S|apply Kd.a_Z));exact (Kd.b_P (Kd.d_E (p:=⟨b_0,1,none⟩) (Kd.d_E (p:=⟨b_0,0,none⟩) (Kd.b_P g_3.out (fun k_ hk => (⟨hk,hk.2⟩ : _ ∧ k_ ≠ b_0))) (fun _ hk => hk.2) (.slice Ao58 t268.length co58)) (fun _ hk => hk.2) (.int .i64 t271)) (fun _ h_ => h_.1))));(case side4 => exact (Kd.b_A g_3.out).2.1);rintro e w80 ⟨rfl,hb⟩;replace e_m:=a_e.mk (Kd.a_2 (by (with_reducible repeat (first|apply Kd.a_R|apply Kd.a_S|apply Kd.a_Z));exact (Kd.b_P (Kd.d_E (p:=⟨b_0,1,none⟩) (Kd.d_E (p:=⟨b_0,0,none⟩) (Kd.b_P e_m.out (fun k_ hk => (⟨hk,hk.2⟩ : _ ∧ k_ ≠ b_0))) (fun _ hk => hk.2) (.slice Ao58 t268.length co58)) (fun _ hk => hk.2) (.int .i64 t271)) (fun _ h_ => h_.1))) hb);replace e_H:=a_e.mk (Kd.a_2 (by (with_reducible repeat (first|apply Kd.a_R|apply Kd.a_S|apply Kd.a_Z));exact (Kd.b_P (Kd.d_E (p:=⟨b_0,1,none⟩) (Kd.d_E (p:=⟨b_0,0,none⟩) (Kd.b_P e_H.out (fun k_ hk => (⟨hk,hk.2⟩ : _ ∧ k_ ≠ b_0))) (fun _ hk => hk.2) (.slice Ao58 t268.length co58)) (fun _ hk => hk.2) (.int .i64 t271)) (fun _ h_ => h_.1))) hb);replace g_C:=a_e.mk (Kd.a_3 (by (with_reducible repeat (first|apply Kd.a_Q|apply Kd.a_O|apply Kd.a_W));exact (Kd.b_X (Kd.g_7 (p:=⟨b_0,1,none⟩) (Kd.g_7 (p:=⟨b_0,0,none⟩) (Kd.b_X g_C.out (fun k_ hk => (⟨hk,hk.2⟩ : _ ∧ k_ ≠ b_0))) (fun _ hk => hk.2) (.slice Ao58 t268.length co58)) (fun _ hk => hk.2) (.int .i64 t271)) (fun _ h_ => h_.1))) hb);replace g_3:=a_e.mk (Kd.a_2 (by (with_reducible repeat (first|apply Kd.a_R|apply Kd.a_S|apply Kd.a_Z));exact (Kd.b_P (Kd.d_E (p:=⟨b_0,1,none⟩) (Kd.d_E (p:=⟨b_0,0,none⟩) (Kd.b_P g_3.out (fun k_ hk => (⟨hk,hk.2⟩ : _ ∧ k_ ≠ b_0))) (fun _ hk => hk.2) (.slice Ao58 t268.length co58)) (fun _ hk => hk.2) (.int .i64 t271)) (fun _ h_ => h_.1))) hb);replace a_0:=a_e.mk (a_l (g:=b_D) (o:=.cells #[.slice A0_0 l0_0.length c0_0,.int .i64 a0_1] 24 (0,0)) (by (with_reducible repeat (first|refine a_j ?_ _|refine a_k ?_|refine a_i ?_ _));refine a_B ?_ c_l.out _;(with_reducible repeat (first|refine a_j ?_ _|refine a_k ?_|refine a_i ?_ _));refine a_B ?_ c_l.out _;(with_reducible repeat (first|refine a_j ?_ _|refine a_k ?_|refine a_i ?_ _));exact a_0.out) hb);replace b_p:=a_e.mk (a_l (g:=c_T) (o:=.cells #[.int .i64 a1_0,.slice A1_1 l1_1.length c1_1] 27 (0,0)) (by (with_reducible repeat (first|refine a_j ?_ _|refine a_k ?_|refine a_i ?_ _));refine a_B ?_ e_6.out _;(with_reducible repeat (first|refine a_j ?_ _|refine a_k ?_|refine a_i ?_ _));refine a_B ?_ e_6.out _;(with_reducible repeat (first|refine a_j ?_ _|refine a_k ?_|refine a_i ?_ _));exact b_p.out) hb);replace b_d:=a_e.mk (a_l (g:=b_4) (o:=.cells #[.slice Ao29 t251.length co29,.int .i64 t254] 24 (0,0)) (by (with_reducible repeat (first|refine a_j ?_ _|refine a_k ?_|refine a_i ?_ _));refine a_B ?_ c_m.out _;(with_reducible repeat (first|refine a_j ?_ _|refine a_k ?_|refine a_i ?_ _));refine a_B ?_ c_m.out _;(with_reducible repeat (first|refine a_j ?_ _|refine a_k ?_|refine a_i ?_ _));exact b_d.out) hb);replace b_O:=a_e.mk (a_l (g:=c_7) (o:=.cells #[.slice Ao38 t256.length co38,.int .i64 t259] 24 (0,0)) (by (with_reducible repeat (first|refine a_j ?_ _|refine a_k ?_|refine a_i ?_ _));refine a_B ?_ e_7.out _;(with_reducible repeat (first|refine a_j ?_ _|refine a_k ?_|refine a_i ?_ _));refine a_B ?_ e_7.out _;(with_reducible repeat (first|refine a_j ?_ _|refine a_k ?_|refine a_i ?_ _));exact b_O.out) hb);replace b_U:=a_e.mk (a_l (g:=c_1) (o:=.cells #[.slice Ao47 t262.length co47,.int .i64 t265] 24 (0,0)) (by (with_reducible repeat (first|refine a_j ?_ _|refine a_k ?_|refine a_i ?_ _));refine a_B ?_ d_Z.out _;(with_reducible repeat (first|refine a_j ?_ _|refine a_k ?_|refine a_i ?_ _));refine a_B ?_ d_Z.out _;(with_reducible repeat (first|refine a_j ?_ _|refine a_k ?_|refine a_i ?_ _));exact b_U.out) hb);replace b_9:=a_e.mk (a_l (g:=b_0) (o:=.cells #[.slice Ao58 t268.length co58,.int .i64 t271] 24 (0,0)) (by (with_reducible repeat (first|refine a_j ?_ _|refine a_k ?_|refine a_i ?_ _));refine a_J (cs:=#[.slice Ao58 t268.length co58,.int .i64 0]) ?_ 1 _ rfl;(with_reducible repeat (first|refine a_j ?_ _|refine a_k ?_|refine a_i ?_ _));refine a_J (cs:=#[.slice none 0 0,.int .i64 0]) ?_ 0 _ rfl;(with_reducible repeat (first|refine a_j ?_ _|refine a_k ?_|refine a_i ?_ _));exact b_9.out) hb);replace HB:=a_e.mk (a_t (by repeat (first|(with_reducible first|exact HB.out|apply a_g|apply a_f|apply a_h|refine a_d ?_ b_W.out|refine a_d ?_ b_2.out|refine a_d ?_ c_k.out|refine a_d ?_ c_M.out|refine a_d ?_ c_3.out|refine a_d ?_ d_O.out)|exact HB.out)) hb);(try clear hb);(try clear hb2);(try clear hk);(try clear hi);have P_E:=d_K.out;have P_F:=c_9.out;have P_G:=d_L.out;have P_H:=d_a.out;have B_a:=d_c.out;have B_b:=d_N.out;have v_g : w80.cell? ⟨b_4,0,none⟩ = some (.slice Ao29 t251.length co29):=(a_a b_d.out 0).trans rfl;have v_h : w80.cell? ⟨b_4,1,none⟩ = some (.int .i64 t254):=(a_a b_d.out 1).trans rfl;have v_i:=a_b b_d.out 0;have v_j:=a_b b_d.out 1;have P_I:=c_X.out;have P_J:=c_Y.out;have P_K:=d_b.out;have P_L:=d_M.out;have v_k : w80.cell? ⟨b_D,0,none⟩ = some (.slice A0_0 l0_0.length c0_0):=(a_a a_0.out 0).trans rfl;have v_l : w80.cell? ⟨b_D,1,none⟩ = some (.int .i64 a0_1):=(a_a a_0.out 1).trans rfl;have v_m:=a_b a_0.out 0;have v_n:=a_b a_0.out 1)|(go_at_call 13;(with_reducible refine (a_z.calls kj5 _ _ t251 t254 _ _ l0_0 a0_1 t275 _ ?side1 ?side2 ?side3 ?side4 A68.out).mono ?_);(case side1 => repeat (first|exact (Kd.b_A e_m.out).2.2|(with_reducible refine Kd.a_9 ?_ _)|(with_reducible refine Kd.a_8 ?_ _)|(with_reducible refine Kd.b_i ?_)));(case side2 => exact (Kd.b_A e_m.out).2.1);(case side3 => repeat (first|exact (Kd.b_f c_V.out HB.out)|(with_reducible refine Kd.a_9 ?_ _)|(with_reducible refine Kd.a_8 ?_ _)|(with_reducible refine Kd.b_i ?_)));(case side4 => exact f_w.out);rintro e w88 ⟨rfl,hb⟩;replace e_m:=a_e.mk (Kd.a_2 (by (with_reducible repeat (first|apply Kd.a_R|apply Kd.a_S|apply Kd.a_Z));exact e_m.out) hb);replace e_H:=a_e.mk (Kd.a_2 (by (with_reducible repeat (first|apply Kd.a_R|apply Kd.a_S|apply Kd.a_Z));exact e_H.out) hb);replace g_C:=a_e.mk (Kd.a_3 (by (with_reducible repeat (first|apply Kd.a_Q|apply Kd.a_O|apply Kd.a_W));exact g_C.out) hb);replace g_3:=a_e.mk (Kd.a_2 (by (with_reducible repeat (first|apply Kd.a_R|apply Kd.a_S|apply Kd.a_Z));exact g_3.out) hb);replace a_0:=a_e.mk (a_l (bup_ a_0.out) hb);replace b_p:=a_e.mk (a_l (bup_ b_p.out) hb);replace b_d:=a_e.mk (a_l (bup_ b_d.out) hb);replace b_O:=a_e.mk (a_l (bup_ b_O.out) hb);replace b_U:=a_e.mk (a_l (bup_ b_U.out) hb);replace b_9:=a_e.mk (a_l (bup_ b_9.out) hb);replace HB:=a_e.mk (a_t (by repeat (first|(with_reducible first|exact HB.out|apply a_g|apply a_f|apply a_h|refine a_d ?_ b_W.out|refine a_d ?_ b_2.out|refine a_d ?_ c_k.out|refine a_d ?_ c_M.out|refine a_d ?_ c_3.out|refine a_d ?_ d_O.out)|exact HB.out)) hb);(try clear hb);(try clear hb2);(try clear hk);(try clear hi)))
    go_meet
    case rel => exact ⟨_,(!t275),(by first|rfl|(simp;done)|(simp [*];done)),H',⟨by have:=HJ5.out;first|omega|exact Nat.le_refl _⟩,⟨by (with_reducible repeat (first|apply Kd.a_R|apply Kd.a_S|apply Kd.a_Z));exact Kd.b_P e_m.out (fun _ hk => ⟨hk.1.1.1,⟨hk.1.2,⟨hk.1.1.2.1,⟨hk.1.1.2.2.1,⟨hk.1.1.2.2.2.1,⟨hk.1.1.2.2.2.2.1,⟨hk.1.1.2.2.2.2.2,hk.2⟩⟩⟩⟩⟩⟩⟩)⟩,⟨by (with_reducible repeat (first|apply Kd.a_R|apply Kd.a_S|apply Kd.a_Z));exact Kd.b_P e_H.out (fun _ hk => ⟨hk.1.2,⟨hk.1.1.1,⟨hk.1.1.2.1,⟨hk.1.1.2.2.1,⟨hk.1.1.2.2.2.1,⟨hk.1.1.2.2.2.2,hk.2⟩⟩⟩⟩⟩⟩)⟩,⟨by (with_reducible repeat (first|apply Kd.a_Q|apply Kd.a_O|apply Kd.a_W));exact Kd.b_X g_C.out (fun _ hk => ⟨hk.1.1.1,⟨hk.1.2,⟨hk.1.1.2.1,⟨hk.1.1.2.2.1,⟨hk.1.1.2.2.2.1,⟨hk.1.1.2.2.2.2.1,⟨hk.1.1.2.2.2.2.2,hk.2⟩⟩⟩⟩⟩⟩⟩)⟩,⟨by (with_reducible repeat (first|apply Kd.a_R|apply Kd.a_S|apply Kd.a_Z));exact Kd.b_P g_3.out (fun _ hk => ⟨hk.1.1,⟨hk.1.2.1,⟨hk.1.2.2.1,⟨hk.1.2.2.2.1,⟨hk.1.2.2.2.2.1,⟨hk.1.2.2.2.2.2.1,⟨hk.1.2.2.2.2.2.2,hk.2⟩⟩⟩⟩⟩⟩⟩)⟩,⟨by (with_reducible repeat (first|refine a_j ?_ _|refine a_k ?_|refine a_i ?_ _));exact a_0.out⟩,⟨by (with_reducible repeat (first|refine a_j ?_ _|refine a_k ?_|refine a_i ?_ _));exact b_p.out⟩,⟨by (with_reducible repeat (first|refine a_j ?_ _|refine a_k ?_|refine a_i ?_ _));exact b_d.out⟩,⟨by (with_reducible repeat (first|refine a_j ?_ _|refine a_k ?_|refine a_i ?_ _));exact b_O.out⟩,⟨by (with_reducible repeat (first|refine a_j ?_ _|refine a_k ?_|refine a_i ?_ _));exact b_U.out⟩,⟨by (with_reducible repeat (first|refine a_j ?_ _|refine a_k ?_|refine a_i ?_ _));exact b_9.out⟩,⟨by repeat (first|(with_reducible first|exact HB.out|apply a_g|apply a_f|apply a_h|refine a_d ?_ b_W.out|refine a_d ?_ b_2.out|refine a_d ?_ c_k.out|refine a_d ?_ c_M.out|refine a_d ?_ c_3.out|refine a_d ?_ d_O.out)|exact HB.out)⟩⟩
   case rest =>
    clear HC24
    try clear c1
    try clear c2
    try clear p2
    try clear c3
    try clear c4
    try clear c5
    try clear c6
    try clear c7
    try clear c8
    try clear c9
    try clear c10
    try clear c11
    try clear c12
    try clear c15
    try clear c19
    try clear c25
    try clear c30
    try clear c31
    try clear c39
    try clear c40
    try clear c41
    try clear c48
    try clear c49
    try clear c50
    try clear c51
    try clear c59
    try clear c60
    try clear c61
    try clear c62
    try clear c63
    try clear c65
    try clear c65b0
    try clear c65b1
    try clear c67
    try clear c69
    try clear c70
    try clear c71
    try clear c72
    try clear c73
    try clear c75
    try clear c76
    try clear c77
    try clear c78
    try clear c81
    try clear c82
    try clear c83
    try clear c85
    try clear c86
    try clear c89
    try clear c90
    try clear c91
    try clear c92
    try clear c93
    try clear c95
    try clear c96
    try clear c97
    try clear c98
    try clear g_d
    try clear g_e
    try clear h_d
    try clear h_e
    try clear k_S
    try clear k_T
    try clear j_p
    try clear j_q
    try clear m_7
    try clear m_8
    try clear m_U
    try clear m_V
    try clear l_e
    try clear l_f
    try clear j_t
    try clear j_u
    try clear q_a
    try clear q_b
    try clear m_3
    try clear m_4
    try clear q_n
    try clear q_o
    try clear u_4
    try clear u_5
    try clear q_f
    try clear q_g
    try clear m_C
    try clear m_D
    try clear m_G
    try clear m_H
    try clear v_g
    try clear v_h
    try clear v_k
    try clear v_l
    try clear u_8
    try clear u_9
    try clear v_c
    try clear v_d
    try clear g_f
    try clear g_g
    try clear h_f
    try clear h_g
    try clear k_U
    try clear k_V
    try clear j_r
    try clear j_s
    try clear m_9
    try clear n_a
    try clear m_W
    try clear m_X
    try clear l_g
    try clear l_h
    try clear j_v
    try clear j_w
    try clear q_d
    try clear q_e
    try clear m_5
    try clear m_6
    try clear q_p
    try clear q_q
    try clear u_6
    try clear u_7
    try clear q_h
    try clear q_i
    try clear m_E
    try clear m_F
    try clear m_I
    try clear m_J
    try clear v_i
    try clear v_j
    try clear v_m
    try clear v_n
    try clear v_a
    try clear v_b
    try clear v_e
    try clear v_f
    try clear p2
    obtain ⟨kq,x59_23,rfl,HA,HJ23,a_X,b_b,b_a,b_c,a_0,b_p,b_d,b_O,b_U,b_9,HB⟩:=hcut
    cases kq with
    | zero => exact absurd HA.out (by simp [a_u.j1])
    | succ kj23 =>
     have H:=HA.out
     clear HA
     simp only [a_u.j1] at H
     by_cases c101 : x59_23 = true
     ·subst c101
      have H1 : (some false) = some r:=by rw [if_pos rfl] at H;exact H
      clear H
      have H:=H1
      clear H1
      obtain rfl:=Option.some.inj H
      go_wp2
      go_ret
      exact ⟨by first|rfl|(simp [a_w,a_x] <;> rfl)|(simp [*, a_w,a_x] <;> rfl),by repeat (first|(with_reducible first|exact HB.out|apply a_g|apply a_f|apply a_h|refine a_d ?_ b_W.out|refine a_d ?_ b_2.out|refine a_d ?_ c_k.out|refine a_d ?_ c_M.out|refine a_d ?_ c_3.out|refine a_d ?_ d_O.out)|exact HB.out)⟩
     replace c101:=Bool.eq_false_iff.mpr c101
     subst c101
     have H1 : ((a_A.f kj23 t251 t254).bind fun t276 => ((a_q.f kj23 l0_0 a0_1).bind fun t277 => (if t277 = true then (if a2 < a0_1 then (if t276 = 0 then (if t266 = 2 then (some ((t262.length : Int) == 0)) else (some false)) else (some false)) else (if a2 > 1125899906842624 then (if t276 = 0 then (if t266 = 2 then (some ((t262.length : Int) == 0)) else (some false)) else (some false)) else (if t276 = 0 then (if t266 = 0 then ((a_z.f kj23 t262 t265 l0_0 a2).bind fun t278 => (some t278)) else (some false)) else (some false)))) else (if t276 = 390 then (if t266 = 390 then (some ((t262.length : Int) == 0)) else (some false)) else (some false))))) = some r:=by rw [if_neg (show ¬ (false = true) by decide)] at H;exact H
     clear H
     have H:=H1
     clear H1
     replace H:=Option.bind_eq_some_iff.mp H
     obtain ⟨t276,A1020,H⟩:=H
     replace H : ((a_q.f kj23 l0_0 a0_1).bind fun t277 => (if t277 = true then (if a2 < a0_1 then (if t276 = 0 then (if t266 = 2 then (some ((t262.length : Int) == 0)) else (some false)) else (some false)) else (if a2 > 1125899906842624 then (if t276 = 0 then (if t266 = 2 then (some ((t262.length : Int) == 0)) else (some false)) else (some false)) else (if t276 = 0 then (if t266 = 0 then ((a_z.f kj23 t262 t265 l0_0 a2).bind fun t278 => (some t278)) else (some false)) else (some false)))) else (if t276 = 390 then (if t266 = 390 then (some ((t262.length : Int) == 0)) else (some false)) else (some false)))) = some r:=H
     have A102:=a_e.mk A1020
     clear A1020
     replace H:=Option.bind_eq_some_iff.mp H
     obtain ⟨t277,A1030,H⟩:=H
     replace H : (if t277 = true then (if a2 < a0_1 then (if t276 = 0 then (if t266 = 2 then (some ((t262.length : Int) == 0)) else (some false)) else (some false)) else (if a2 > 1125899906842624 then (if t276 = 0 then (if t266 = 2 then (some ((t262.length : Int) == 0)) else (some false)) else (some false)) else (if t276 = 0 then (if t266 = 0 then ((a_z.f kj23 t262 t265 l0_0 a2).bind fun t278 => (some t278)) else (some false)) else (some false)))) else (if t276 = 390 then (if t266 = 390 then (some ((t262.length : Int) == 0)) else (some false)) else (some false))) = some r:=H
     have A103:=a_e.mk A1030
     clear A1030
     by_cases c104 : t277 = true
     rotate_left
     ·replace c104:=Bool.eq_false_iff.mpr c104
      subst c104
      have H1 : (if t276 = 390 then (if t266 = 390 then (some ((t262.length : Int) == 0)) else (some false)) else (some false)) = some r:=by rw [if_neg (show ¬ (false = true) by decide)] at H;exact H
      clear H
      have H:=H1
      clear H1
      by_cases c253 : t276 = 390
      rotate_left
      ·rw [if_neg c253] at H
       have c253b0 : (t276 == 390) = false:=beq_eq_false_iff_ne.mpr c253
       have c253b1 : (t276 != 390) = true:=bne_iff_ne.mpr c253
       obtain rfl:=Option.some.inj H
       have K_l:=d_K.out
       have K_m:=c_9.out
       have K_n:=d_L.out
       have K_o:=d_a.out
       have K_p:=c_0.out
       have K_q:=d_B.out
       have K_r:=d_c.out
       have K_s:=d_N.out
       have K_t:=c_m.out
       have K_u:=d_D.out
       have x_G : wc.cell? ⟨b_4,0,none⟩ = some (.slice Ao29 t251.length co29):=(a_a b_d.out 0).trans rfl
       have x_H : wc.cell? ⟨b_4,1,none⟩ = some (.int .i64 t254):=(a_a b_d.out 1).trans rfl
       have x_I:=a_b b_d.out 0
       have x_J:=a_b b_d.out 1
       go_wp2_with (first|((with_reducible refine a_P (f:=14) rfl ?_);refine b_v (some 61) rfl rfl Try.func14 (by kernel_rfl) rfl #[.agg #[.slice Ao29 t251.length co29,.int .i64 t254]] rfl (by (try simp only [List.map_toArray,List.map_cons,List.map_nil]);first|done|rfl|(simp only [List.length_drop,List.length_take];rfl)) ?_;(with_reducible refine (a_A.calls kj23 _ _ t251 t254 t276 _ ?side1 ?side2 A102.out).mono ?_);(case side1 => repeat (first|exact (Kd.b_A a_X.out).2.2|(with_reducible refine Kd.a_9 ?_ _)|(with_reducible refine Kd.a_8 ?_ _)|(with_reducible refine Kd.b_i ?_)));(case side2 => exact (Kd.b_A a_X.out).2.1);rintro e w291 ⟨rfl,hb⟩;refine ⟨_,rfl,?_⟩;replace a_X:=a_e.mk (Kd.a_2 (by (with_reducible repeat (first|apply Kd.a_R|apply Kd.a_S|apply Kd.a_Z));exact a_X.out) hb);replace b_b:=a_e.mk (Kd.a_2 (by (with_reducible repeat (first|apply Kd.a_R|apply Kd.a_S|apply Kd.a_Z));exact b_b.out) hb);replace b_a:=a_e.mk (Kd.a_3 (by (with_reducible repeat (first|apply Kd.a_Q|apply Kd.a_O|apply Kd.a_W));exact b_a.out) hb);replace b_c:=a_e.mk (Kd.a_2 (by (with_reducible repeat (first|apply Kd.a_R|apply Kd.a_S|apply Kd.a_Z));exact b_c.out) hb);replace a_0:=a_e.mk (a_l (bup_ a_0.out) hb);replace b_p:=a_e.mk (a_l (bup_ b_p.out) hb);replace b_d:=a_e.mk (a_l (bup_ b_d.out) hb);replace b_O:=a_e.mk (a_l (bup_ b_O.out) hb);replace b_U:=a_e.mk (a_l (bup_ b_U.out) hb);replace b_9:=a_e.mk (a_l (bup_ b_9.out) hb);replace HB:=a_e.mk (a_t (by repeat (first|(with_reducible first|exact HB.out|apply a_g|apply a_f|apply a_h|refine a_d ?_ b_W.out|refine a_d ?_ b_2.out|refine a_d ?_ c_k.out|refine a_d ?_ c_M.out|refine a_d ?_ c_3.out|refine a_d ?_ d_O.out)|exact HB.out)) hb);(try clear hb);(try clear hb2);(try clear hk);(try clear hi);have K_v:=c_X.out;have K_w:=c_Y.out;have K_x:=c_Z.out;have K_y:=d_A.out;have K_z:=d_b.out;have K_A:=d_M.out;have K_B:=c_l.out;have K_C:=d_C.out;have x_K : w291.cell? ⟨b_D,0,none⟩ = some (.slice A0_0 l0_0.length c0_0):=(a_a a_0.out 0).trans rfl;have x_L : w291.cell? ⟨b_D,1,none⟩ = some (.int .i64 a0_1):=(a_a a_0.out 1).trans rfl;have x_M:=a_b a_0.out 0;have x_N:=a_b a_0.out 1)|((with_reducible refine a_P (f:=15) rfl ?_);refine b_v (some 64) rfl rfl Try.func15 (by kernel_rfl) rfl #[.agg #[.slice A0_0 l0_0.length c0_0,.int .i64 a0_1]] rfl (by (try simp only [List.map_toArray,List.map_cons,List.map_nil]);first|done|rfl|(simp only [List.length_drop,List.length_take];rfl)) ?_;(with_reducible refine (a_q.calls kj23 _ _ l0_0 a0_1 false _ ?side1 ?side2 A103.out).mono ?_);(case side1 => repeat (first|exact (Kd.b_f c_V.out HB.out)|(with_reducible refine Kd.a_9 ?_ _)|(with_reducible refine Kd.a_8 ?_ _)|(with_reducible refine Kd.b_i ?_)));(case side2 => exact f_w.out);rintro e w297 ⟨rfl,hb⟩;refine ⟨_,rfl,?_⟩;replace a_X:=a_e.mk (Kd.a_2 (by (with_reducible repeat (first|apply Kd.a_R|apply Kd.a_S|apply Kd.a_Z));exact a_X.out) hb);replace b_b:=a_e.mk (Kd.a_2 (by (with_reducible repeat (first|apply Kd.a_R|apply Kd.a_S|apply Kd.a_Z));exact b_b.out) hb);replace b_a:=a_e.mk (Kd.a_3 (by (with_reducible repeat (first|apply Kd.a_Q|apply Kd.a_O|apply Kd.a_W));exact b_a.out) hb);replace b_c:=a_e.mk (Kd.a_2 (by (with_reducible repeat (first|apply Kd.a_R|apply Kd.a_S|apply Kd.a_Z));exact b_c.out) hb);replace a_0:=a_e.mk (a_l (bup_ a_0.out) hb);replace b_p:=a_e.mk (a_l (bup_ b_p.out) hb);replace b_d:=a_e.mk (a_l (bup_ b_d.out) hb);replace b_O:=a_e.mk (a_l (bup_ b_O.out) hb);replace b_U:=a_e.mk (a_l (bup_ b_U.out) hb);replace b_9:=a_e.mk (a_l (bup_ b_9.out) hb);replace HB:=a_e.mk (a_t (by repeat (first|(with_reducible first|exact HB.out|apply a_g|apply a_f|apply a_h|refine a_d ?_ b_W.out|refine a_d ?_ b_2.out|refine a_d ?_ c_k.out|refine a_d ?_ c_M.out|refine a_d ?_ c_3.out|refine a_d ?_ d_O.out)|exact HB.out)) hb);(try clear hb);(try clear hb2);(try clear hk);(try clear hi)))
       go_ret
       exact ⟨by first|rfl|(simp [a_w,a_x] <;> rfl)|(simp [*, a_w,a_x] <;> rfl),by repeat (first|(with_reducible first|exact HB.out|apply a_g|apply a_f|apply a_h|refine a_d ?_ b_W.out|refine a_d ?_ b_2.out|refine a_d ?_ c_k.out|refine a_d ?_ c_M.out|refine a_d ?_ c_3.out|refine a_d ?_ d_O.out)|exact HB.out)⟩
      rw [if_pos c253] at H
      have c253b0 : (t276 == 390) = true:=beq_iff_eq.mpr c253
      have c253b1 : (t276 != 390) = false:=bne_eq_false_iff_eq.mpr c253
      clear c253
      by_cases c254 : t266 = 390
      ·rw [if_pos c254] at H
       have c254b0 : (t266 == 390) = true:=beq_iff_eq.mpr c254
       have c254b1 : (t266 != 390) = false:=bne_eq_false_iff_eq.mpr c254
       clear c254
       obtain rfl:=Option.some.inj H
       have K_D:=d_K.out
       have K_E:=c_9.out
       have K_F:=d_L.out
       have K_G:=d_a.out
       have K_H:=c_0.out
       have K_I:=d_B.out
       have K_J:=d_c.out
       have K_K:=d_N.out
       have K_L:=c_m.out
       have K_M:=d_D.out
       have x_O : wc.cell? ⟨b_4,0,none⟩ = some (.slice Ao29 t251.length co29):=(a_a b_d.out 0).trans rfl
       have x_P : wc.cell? ⟨b_4,1,none⟩ = some (.int .i64 t254):=(a_a b_d.out 1).trans rfl
       have x_Q:=a_b b_d.out 0
       have x_R:=a_b b_d.out 1
       go_wp2_with (first|((with_reducible refine a_P (f:=14) rfl ?_);refine b_v (some 61) rfl rfl Try.func14 (by kernel_rfl) rfl #[.agg #[.slice Ao29 t251.length co29,.int .i64 t254]] rfl (by (try simp only [List.map_toArray,List.map_cons,List.map_nil]);first|done|rfl|(simp only [List.length_drop,List.length_take];rfl)) ?_;(with_reducible refine (a_A.calls kj23 _ _ t251 t254 t276 _ ?side1 ?side2 A102.out).mono ?_);(case side1 => repeat (first|exact (Kd.b_A a_X.out).2.2|(with_reducible refine Kd.a_9 ?_ _)|(with_reducible refine Kd.a_8 ?_ _)|(with_reducible refine Kd.b_i ?_)));(case side2 => exact (Kd.b_A a_X.out).2.1);rintro e w261 ⟨rfl,hb⟩;refine ⟨_,rfl,?_⟩;replace a_X:=a_e.mk (Kd.a_2 (by (with_reducible repeat (first|apply Kd.a_R|apply Kd.a_S|apply Kd.a_Z));exact a_X.out) hb);replace b_b:=a_e.mk (Kd.a_2 (by (with_reducible repeat (first|apply Kd.a_R|apply Kd.a_S|apply Kd.a_Z));exact b_b.out) hb);replace b_a:=a_e.mk (Kd.a_3 (by (with_reducible repeat (first|apply Kd.a_Q|apply Kd.a_O|apply Kd.a_W));exact b_a.out) hb);replace b_c:=a_e.mk (Kd.a_2 (by (with_reducible repeat (first|apply Kd.a_R|apply Kd.a_S|apply Kd.a_Z));exact b_c.out) hb);replace a_0:=a_e.mk (a_l (bup_ a_0.out) hb);replace b_p:=a_e.mk (a_l (bup_ b_p.out) hb);replace b_d:=a_e.mk (a_l (bup_ b_d.out) hb);replace b_O:=a_e.mk (a_l (bup_ b_O.out) hb);replace b_U:=a_e.mk (a_l (bup_ b_U.out) hb);replace b_9:=a_e.mk (a_l (bup_ b_9.out) hb);replace HB:=a_e.mk (a_t (by repeat (first|(with_reducible first|exact HB.out|apply a_g|apply a_f|apply a_h|refine a_d ?_ b_W.out|refine a_d ?_ b_2.out|refine a_d ?_ c_k.out|refine a_d ?_ c_M.out|refine a_d ?_ c_3.out|refine a_d ?_ d_O.out)|exact HB.out)) hb);(try clear hb);(try clear hb2);(try clear hk);(try clear hi);have K_N:=c_X.out;have K_O:=c_Y.out;have K_P:=c_Z.out;have K_Q:=d_A.out;have K_R:=d_b.out;have K_S:=d_M.out;have K_T:=c_l.out;have K_U:=d_C.out;have x_S : w261.cell? ⟨b_D,0,none⟩ = some (.slice A0_0 l0_0.length c0_0):=(a_a a_0.out 0).trans rfl;have x_T : w261.cell? ⟨b_D,1,none⟩ = some (.int .i64 a0_1):=(a_a a_0.out 1).trans rfl;have x_U:=a_b a_0.out 0;have x_V:=a_b a_0.out 1)|((with_reducible refine a_P (f:=15) rfl ?_);refine b_v (some 64) rfl rfl Try.func15 (by kernel_rfl) rfl #[.agg #[.slice A0_0 l0_0.length c0_0,.int .i64 a0_1]] rfl (by (try simp only [List.map_toArray,List.map_cons,List.map_nil]);first|done|rfl|(simp only [List.length_drop,List.length_take];rfl)) ?_;(with_reducible refine (a_q.calls kj23 _ _ l0_0 a0_1 false _ ?side1 ?side2 A103.out).mono ?_);(case side1 => repeat (first|exact (Kd.b_f c_V.out HB.out)|(with_reducible refine Kd.a_9 ?_ _)|(with_reducible refine Kd.a_8 ?_ _)|(with_reducible refine Kd.b_i ?_)));(case side2 => exact f_w.out);rintro e w267 ⟨rfl,hb⟩;refine ⟨_,rfl,?_⟩;replace a_X:=a_e.mk (Kd.a_2 (by (with_reducible repeat (first|apply Kd.a_R|apply Kd.a_S|apply Kd.a_Z));exact a_X.out) hb);replace b_b:=a_e.mk (Kd.a_2 (by (with_reducible repeat (first|apply Kd.a_R|apply Kd.a_S|apply Kd.a_Z));exact b_b.out) hb);replace b_a:=a_e.mk (Kd.a_3 (by (with_reducible repeat (first|apply Kd.a_Q|apply Kd.a_O|apply Kd.a_W));exact b_a.out) hb);replace b_c:=a_e.mk (Kd.a_2 (by (with_reducible repeat (first|apply Kd.a_R|apply Kd.a_S|apply Kd.a_Z));exact b_c.out) hb);replace a_0:=a_e.mk (a_l (bup_ a_0.out) hb);replace b_p:=a_e.mk (a_l (bup_ b_p.out) hb);replace b_d:=a_e.mk (a_l (bup_ b_d.out) hb);replace b_O:=a_e.mk (a_l (bup_ b_O.out) hb);replace b_U:=a_e.mk (a_l (bup_ b_U.out) hb);replace b_9:=a_e.mk (a_l (bup_ b_9.out) hb);replace HB:=a_e.mk (a_t (by repeat (first|(with_reducible first|exact HB.out|apply a_g|apply a_f|apply a_h|refine a_d ?_ b_W.out|refine a_d ?_ b_2.out|refine a_d ?_ c_k.out|refine a_d ?_ c_M.out|refine a_d ?_ c_3.out|refine a_d ?_ d_O.out)|exact HB.out)) hb);(try clear hb);(try clear hb2);(try clear hk);(try clear hi);have K_V:=g_T.out;have K_W:=f_R.out;have K_X:=f_S.out;have K_Y:=e_5.out;have K_Z:=d_Z.out;have K_0:=f_T.out;have x_W : w267.cell? ⟨c_1,0,none⟩ = some (.slice Ao47 t262.length co47):=(a_a b_U.out 0).trans rfl;have x_X : w267.cell? ⟨c_1,1,none⟩ = some (.int .i64 t265):=(a_a b_U.out 1).trans rfl;have x_Y:=a_b b_U.out 0;have x_Z:=a_b b_U.out 1))
       go_ret
       exact ⟨by first|rfl|(simp [a_w,a_x] <;> rfl)|(simp [*, a_w,a_x] <;> rfl),by repeat (first|(with_reducible first|exact HB.out|apply a_g|apply a_f|apply a_h|refine a_d ?_ b_W.out|refine a_d ?_ b_2.out|refine a_d ?_ c_k.out|refine a_d ?_ c_M.out|refine a_d ?_ c_3.out|refine a_d ?_ d_O.out)|exact HB.out)⟩
      rw [if_neg c254] at H
      have c254b0 : (t266 == 390) = false:=beq_eq_false_iff_ne.mpr c254
      have c254b1 : (t266 != 390) = true:=bne_iff_ne.mpr c254
      obtain rfl:=Option.some.inj H
      have K_1:=d_K.out
      have K_2:=c_9.out
      have K_3:=d_L.out
      have K_4:=d_a.out
      have K_5:=c_0.out
      have K_6:=d_B.out
      have K_7:=d_c.out
      have K_8:=d_N.out
      have K_9:=c_m.out
      have L_a:=d_D.out
      have x_0 : wc.cell? ⟨b_4,0,none⟩ = some (.slice Ao29 t251.length co29):=(a_a b_d.out 0).trans rfl
      have x_1 : wc.cell? ⟨b_4,1,none⟩ = some (.int .i64 t254):=(a_a b_d.out 1).trans rfl
      have x_2:=a_b b_d.out 0
      have x_3:=a_b b_d.out 1
      go_wp2_with (first|((with_reducible refine a_P (f:=14) rfl ?_);refine b_v (some 61) rfl rfl Try.func14 (by kernel_rfl) rfl #[.agg #[.slice Ao29 t251.length co29,.int .i64 t254]] rfl (by (try simp only [List.map_toArray,List.map_cons,List.map_nil]);first|done|rfl|(simp only [List.length_drop,List.length_take];rfl)) ?_;(with_reducible refine (a_A.calls kj23 _ _ t251 t254 t276 _ ?side1 ?side2 A102.out).mono ?_);(case side1 => repeat (first|exact (Kd.b_A a_X.out).2.2|(with_reducible refine Kd.a_9 ?_ _)|(with_reducible refine Kd.a_8 ?_ _)|(with_reducible refine Kd.b_i ?_)));(case side2 => exact (Kd.b_A a_X.out).2.1);rintro e w278 ⟨rfl,hb⟩;refine ⟨_,rfl,?_⟩;replace a_X:=a_e.mk (Kd.a_2 (by (with_reducible repeat (first|apply Kd.a_R|apply Kd.a_S|apply Kd.a_Z));exact a_X.out) hb);replace b_b:=a_e.mk (Kd.a_2 (by (with_reducible repeat (first|apply Kd.a_R|apply Kd.a_S|apply Kd.a_Z));exact b_b.out) hb);replace b_a:=a_e.mk (Kd.a_3 (by (with_reducible repeat (first|apply Kd.a_Q|apply Kd.a_O|apply Kd.a_W));exact b_a.out) hb);replace b_c:=a_e.mk (Kd.a_2 (by (with_reducible repeat (first|apply Kd.a_R|apply Kd.a_S|apply Kd.a_Z));exact b_c.out) hb);replace a_0:=a_e.mk (a_l (bup_ a_0.out) hb);replace b_p:=a_e.mk (a_l (bup_ b_p.out) hb);replace b_d:=a_e.mk (a_l (bup_ b_d.out) hb);replace b_O:=a_e.mk (a_l (bup_ b_O.out) hb);replace b_U:=a_e.mk (a_l (bup_ b_U.out) hb);replace b_9:=a_e.mk (a_l (bup_ b_9.out) hb);replace HB:=a_e.mk (a_t (by repeat (first|(with_reducible first|exact HB.out|apply a_g|apply a_f|apply a_h|refine a_d ?_ b_W.out|refine a_d ?_ b_2.out|refine a_d ?_ c_k.out|refine a_d ?_ c_M.out|refine a_d ?_ c_3.out|refine a_d ?_ d_O.out)|exact HB.out)) hb);(try clear hb);(try clear hb2);(try clear hk);(try clear hi);have L_b:=c_X.out;have L_c:=c_Y.out;have L_d:=c_Z.out;have L_e:=d_A.out;have L_f:=d_b.out;have L_g:=d_M.out;have L_h:=c_l.out;have L_i:=d_C.out;have x_4 : w278.cell? ⟨b_D,0,none⟩ = some (.slice A0_0 l0_0.length c0_0):=(a_a a_0.out 0).trans rfl;have x_5 : w278.cell? ⟨b_D,1,none⟩ = some (.int .i64 a0_1):=(a_a a_0.out 1).trans rfl;have x_6:=a_b a_0.out 0;have x_7:=a_b a_0.out 1)|((with_reducible refine a_P (f:=15) rfl ?_);refine b_v (some 64) rfl rfl Try.func15 (by kernel_rfl) rfl #[.agg #[.slice A0_0 l0_0.length c0_0,.int .i64 a0_1]] rfl (by (try simp only [List.map_toArray,List.map_cons,List.map_nil]);first|done|rfl|(simp only [List.length_drop,List.length_take];rfl)) ?_;(with_reducible refine (a_q.calls kj23 _ _ l0_0 a0_1 false _ ?side1 ?side2 A103.out).mono ?_);(case side1 => repeat (first|exact (Kd.b_f c_V.out HB.out)|(with_reducible refine Kd.a_9 ?_ _)|(with_reducible refine Kd.a_8 ?_ _)|(with_reducible refine Kd.b_i ?_)));(case side2 => exact f_w.out);rintro e w284 ⟨rfl,hb⟩;refine ⟨_,rfl,?_⟩;replace a_X:=a_e.mk (Kd.a_2 (by (with_reducible repeat (first|apply Kd.a_R|apply Kd.a_S|apply Kd.a_Z));exact a_X.out) hb);replace b_b:=a_e.mk (Kd.a_2 (by (with_reducible repeat (first|apply Kd.a_R|apply Kd.a_S|apply Kd.a_Z));exact b_b.out) hb);replace b_a:=a_e.mk (Kd.a_3 (by (with_reducible repeat (first|apply Kd.a_Q|apply Kd.a_O|apply Kd.a_W));exact b_a.out) hb);replace b_c:=a_e.mk (Kd.a_2 (by (with_reducible repeat (first|apply Kd.a_R|apply Kd.a_S|apply Kd.a_Z));exact b_c.out) hb);replace a_0:=a_e.mk (a_l (bup_ a_0.out) hb);replace b_p:=a_e.mk (a_l (bup_ b_p.out) hb);replace b_d:=a_e.mk (a_l (bup_ b_d.out) hb);replace b_O:=a_e.mk (a_l (bup_ b_O.out) hb);replace b_U:=a_e.mk (a_l (bup_ b_U.out) hb);replace b_9:=a_e.mk (a_l (bup_ b_9.out) hb);replace HB:=a_e.mk (a_t (by repeat (first|(with_reducible first|exact HB.out|apply a_g|apply a_f|apply a_h|refine a_d ?_ b_W.out|refine a_d ?_ b_2.out|refine a_d ?_ c_k.out|refine a_d ?_ c_M.out|refine a_d ?_ c_3.out|refine a_d ?_ d_O.out)|exact HB.out)) hb);(try clear hb);(try clear hb2);(try clear hk);(try clear hi)))
      go_ret
      exact ⟨by first|rfl|(simp [a_w,a_x] <;> rfl)|(simp [*, a_w,a_x] <;> rfl),by repeat (first|(with_reducible first|exact HB.out|apply a_g|apply a_f|apply a_h|refine a_d ?_ b_W.out|refine a_d ?_ b_2.out|refine a_d ?_ c_k.out|refine a_d ?_ c_M.out|refine a_d ?_ c_3.out|refine a_d ?_ d_O.out)|exact HB.out)⟩
     subst c104
     have H1 : (if a2 < a0_1 then (if t276 = 0 then (if t266 = 2 then (some ((t262.length : Int) == 0)) else (some false)) else (some false)) else (if a2 > 1125899906842624 then (if t276 = 0 then (if t266 = 2 then (some ((t262.length : Int) == 0)) else (some false)) else (some false)) else (if t276 = 0 then (if t266 = 0 then ((a_z.f kj23 t262 t265 l0_0 a2).bind fun t278 => (some t278)) else (some false)) else (some false)))) = some r:=by rw [if_pos rfl] at H;exact H
     clear H
     have H:=H1
     clear H1
     by_cases c105 : a2 < a0_1
     ·rw [if_pos c105] at H
      have c105b0 : decide (a2 < a0_1) = true:=decide_eq_true c105
      clear c105
      by_cases c106 : t276 = 0
      rotate_left
      ·rw [if_neg c106] at H
       have c106b0 : (t276 == 0) = false:=beq_eq_false_iff_ne.mpr c106
       have c106b1 : (t276 != 0) = true:=bne_iff_ne.mpr c106
       obtain rfl:=Option.some.inj H
       have L_j:=d_K.out
       have L_k:=c_9.out
       have L_l:=d_L.out
       have L_m:=d_a.out
       have L_n:=c_0.out
       have L_o:=d_B.out
       have L_p:=d_c.out
       have L_q:=d_N.out
       have L_r:=c_m.out
       have L_s:=d_D.out
       have x_8 : wc.cell? ⟨b_4,0,none⟩ = some (.slice Ao29 t251.length co29):=(a_a b_d.out 0).trans rfl
       have x_9 : wc.cell? ⟨b_4,1,none⟩ = some (.int .i64 t254):=(a_a b_d.out 1).trans rfl
       have y_a:=a_b b_d.out 0
       have y_b:=a_b b_d.out 1
       go_wp2_with (first|((with_reducible refine a_P (f:=14) rfl ?_);refine b_v (some 61) rfl rfl Try.func14 (by kernel_rfl) rfl #[.agg #[.slice Ao29 t251.length co29,.int .i64 t254]] rfl (by (try simp only [List.map_toArray,List.map_cons,List.map_nil]);first|done|rfl|(simp only [List.length_drop,List.length_take];rfl)) ?_;(with_reducible refine (a_A.calls kj23 _ _ t251 t254 t276 _ ?side1 ?side2 A102.out).mono ?_);(case side1 => repeat (first|exact (Kd.b_A a_X.out).2.2|(with_reducible refine Kd.a_9 ?_ _)|(with_reducible refine Kd.a_8 ?_ _)|(with_reducible refine Kd.b_i ?_)));(case side2 => exact (Kd.b_A a_X.out).2.1);rintro e w146 ⟨rfl,hb⟩;refine ⟨_,rfl,?_⟩;replace a_X:=a_e.mk (Kd.a_2 (by (with_reducible repeat (first|apply Kd.a_R|apply Kd.a_S|apply Kd.a_Z));exact a_X.out) hb);replace b_b:=a_e.mk (Kd.a_2 (by (with_reducible repeat (first|apply Kd.a_R|apply Kd.a_S|apply Kd.a_Z));exact b_b.out) hb);replace b_a:=a_e.mk (Kd.a_3 (by (with_reducible repeat (first|apply Kd.a_Q|apply Kd.a_O|apply Kd.a_W));exact b_a.out) hb);replace b_c:=a_e.mk (Kd.a_2 (by (with_reducible repeat (first|apply Kd.a_R|apply Kd.a_S|apply Kd.a_Z));exact b_c.out) hb);replace a_0:=a_e.mk (a_l (bup_ a_0.out) hb);replace b_p:=a_e.mk (a_l (bup_ b_p.out) hb);replace b_d:=a_e.mk (a_l (bup_ b_d.out) hb);replace b_O:=a_e.mk (a_l (bup_ b_O.out) hb);replace b_U:=a_e.mk (a_l (bup_ b_U.out) hb);replace b_9:=a_e.mk (a_l (bup_ b_9.out) hb);replace HB:=a_e.mk (a_t (by repeat (first|(with_reducible first|exact HB.out|apply a_g|apply a_f|apply a_h|refine a_d ?_ b_W.out|refine a_d ?_ b_2.out|refine a_d ?_ c_k.out|refine a_d ?_ c_M.out|refine a_d ?_ c_3.out|refine a_d ?_ d_O.out)|exact HB.out)) hb);(try clear hb);(try clear hb2);(try clear hk);(try clear hi);have L_t:=c_X.out;have L_u:=c_Y.out;have L_v:=c_Z.out;have L_w:=d_A.out;have L_x:=d_b.out;have L_y:=d_M.out;have L_z:=c_l.out;have L_A:=d_C.out;have y_c : w146.cell? ⟨b_D,0,none⟩ = some (.slice A0_0 l0_0.length c0_0):=(a_a a_0.out 0).trans rfl;have y_d : w146.cell? ⟨b_D,1,none⟩ = some (.int .i64 a0_1):=(a_a a_0.out 1).trans rfl;have y_e:=a_b a_0.out 0;have y_f:=a_b a_0.out 1)|((with_reducible refine a_P (f:=15) rfl ?_);refine b_v (some 64) rfl rfl Try.func15 (by kernel_rfl) rfl #[.agg #[.slice A0_0 l0_0.length c0_0,.int .i64 a0_1]] rfl (by (try simp only [List.map_toArray,List.map_cons,List.map_nil]);first|done|rfl|(simp only [List.length_drop,List.length_take];rfl)) ?_;(with_reducible refine (a_q.calls kj23 _ _ l0_0 a0_1 true _ ?side1 ?side2 A103.out).mono ?_);(case side1 => repeat (first|exact (Kd.b_f c_V.out HB.out)|(with_reducible refine Kd.a_9 ?_ _)|(with_reducible refine Kd.a_8 ?_ _)|(with_reducible refine Kd.b_i ?_)));(case side2 => exact f_w.out);rintro e w152 ⟨rfl,hb⟩;refine ⟨_,rfl,?_⟩;replace a_X:=a_e.mk (Kd.a_2 (by (with_reducible repeat (first|apply Kd.a_R|apply Kd.a_S|apply Kd.a_Z));exact a_X.out) hb);replace b_b:=a_e.mk (Kd.a_2 (by (with_reducible repeat (first|apply Kd.a_R|apply Kd.a_S|apply Kd.a_Z));exact b_b.out) hb);replace b_a:=a_e.mk (Kd.a_3 (by (with_reducible repeat (first|apply Kd.a_Q|apply Kd.a_O|apply Kd.a_W));exact b_a.out) hb);replace b_c:=a_e.mk (Kd.a_2 (by (with_reducible repeat (first|apply Kd.a_R|apply Kd.a_S|apply Kd.a_Z));exact b_c.out) hb);replace a_0:=a_e.mk (a_l (bup_ a_0.out) hb);replace b_p:=a_e.mk (a_l (bup_ b_p.out) hb);replace b_d:=a_e.mk (a_l (bup_ b_d.out) hb);replace b_O:=a_e.mk (a_l (bup_ b_O.out) hb);replace b_U:=a_e.mk (a_l (bup_ b_U.out) hb);replace b_9:=a_e.mk (a_l (bup_ b_9.out) hb);replace HB:=a_e.mk (a_t (by repeat (first|(with_reducible first|exact HB.out|apply a_g|apply a_f|apply a_h|refine a_d ?_ b_W.out|refine a_d ?_ b_2.out|refine a_d ?_ c_k.out|refine a_d ?_ c_M.out|refine a_d ?_ c_3.out|refine a_d ?_ d_O.out)|exact HB.out)) hb);(try clear hb);(try clear hb2);(try clear hk);(try clear hi);have y_g : w152.cell? ⟨b_D,0,none⟩ = some (.slice A0_0 l0_0.length c0_0):=(a_a a_0.out 0).trans rfl;have y_h : w152.cell? ⟨b_D,1,none⟩ = some (.int .i64 a0_1):=(a_a a_0.out 1).trans rfl;have y_i:=a_b a_0.out 0;have y_j:=a_b a_0.out 1))
       go_ret
       exact ⟨by first|rfl|(simp [a_w,a_x] <;> rfl)|(simp [*, a_w,a_x] <;> rfl),by repeat (first|(with_reducible first|exact HB.out|apply a_g|apply a_f|apply a_h|refine a_d ?_ b_W.out|refine a_d ?_ b_2.out|refine a_d ?_ c_k.out|refine a_d ?_ c_M.out|refine a_d ?_ c_3.out|refine a_d ?_ d_O.out)|exact HB.out)⟩
      rw [if_pos c106] at H
      have c106b0 : (t276 == 0) = true:=beq_iff_eq.mpr c106
      have c106b1 : (t276 != 0) = false:=bne_eq_false_iff_eq.mpr c106
      clear c106
      by_cases c107 : t266 = 2
      ·rw [if_pos c107] at H
       have c107b0 : (t266 == 2) = true:=beq_iff_eq.mpr c107
       have c107b1 : (t266 != 2) = false:=bne_eq_false_iff_eq.mpr c107
       clear c107
       obtain rfl:=Option.some.inj H
       have L_B:=d_K.out
       have L_C:=c_9.out
       have L_D:=d_L.out
       have L_E:=d_a.out
       have L_F:=c_0.out
       have L_G:=d_B.out
       have L_H:=d_c.out
       have L_I:=d_N.out
       have L_J:=c_m.out
       have L_K:=d_D.out
       have r_l : wc.cell? ⟨b_4,0,none⟩ = some (.slice Ao29 t251.length co29):=(a_a b_d.out 0).trans rfl
       have r_m : wc.cell? ⟨b_4,1,none⟩ = some (.int .i64 t254):=(a_a b_d.out 1).trans rfl
       have r_n:=a_b b_d.out 0
       have r_o:=a_b b_d.out 1
       go_wp2_with (first|((with_reducible refine a_P (f:=14) rfl ?_);refine b_v (some 61) rfl rfl Try.func14 (by kernel_rfl) rfl #[.agg #[.slice Ao29 t251.length co29,.int .i64 t254]] rfl (by (try simp only [List.map_toArray,List.map_cons,List.map_nil]);first|done|rfl|(simp only [List.length_drop,List.length_take];rfl)) ?_;(with_reducible refine (a_A.calls kj23 _ _ t251 t254 t276 _ ?side1 ?side2 A102.out).mono ?_);(case side1 => repeat (first|exact (Kd.b_A a_X.out).2.2|(with_reducible refine Kd.a_9 ?_ _)|(with_reducible refine Kd.a_8 ?_ _)|(with_reducible refine Kd.b_i ?_)));(case side2 => exact (Kd.b_A a_X.out).2.1);rintro e w114 ⟨rfl,hb⟩;refine ⟨_,rfl,?_⟩;replace a_X:=a_e.mk (Kd.a_2 (by (with_reducible repeat (first|apply Kd.a_R|apply Kd.a_S|apply Kd.a_Z));exact a_X.out) hb);replace b_b:=a_e.mk (Kd.a_2 (by (with_reducible repeat (first|apply Kd.a_R|apply Kd.a_S|apply Kd.a_Z));exact b_b.out) hb);replace b_a:=a_e.mk (Kd.a_3 (by (with_reducible repeat (first|apply Kd.a_Q|apply Kd.a_O|apply Kd.a_W));exact b_a.out) hb);replace b_c:=a_e.mk (Kd.a_2 (by (with_reducible repeat (first|apply Kd.a_R|apply Kd.a_S|apply Kd.a_Z));exact b_c.out) hb);replace a_0:=a_e.mk (a_l (bup_ a_0.out) hb);replace b_p:=a_e.mk (a_l (bup_ b_p.out) hb);replace b_d:=a_e.mk (a_l (bup_ b_d.out) hb);replace b_O:=a_e.mk (a_l (bup_ b_O.out) hb);replace b_U:=a_e.mk (a_l (bup_ b_U.out) hb);replace b_9:=a_e.mk (a_l (bup_ b_9.out) hb);replace HB:=a_e.mk (a_t (by repeat (first|(with_reducible first|exact HB.out|apply a_g|apply a_f|apply a_h|refine a_d ?_ b_W.out|refine a_d ?_ b_2.out|refine a_d ?_ c_k.out|refine a_d ?_ c_M.out|refine a_d ?_ c_3.out|refine a_d ?_ d_O.out)|exact HB.out)) hb);(try clear hb);(try clear hb2);(try clear hk);(try clear hi);have L_L:=c_X.out;have L_M:=c_Y.out;have L_N:=c_Z.out;have L_O:=d_A.out;have L_P:=d_b.out;have L_Q:=d_M.out;have L_R:=c_l.out;have L_S:=d_C.out;have y_k : w114.cell? ⟨b_D,0,none⟩ = some (.slice A0_0 l0_0.length c0_0):=(a_a a_0.out 0).trans rfl;have y_l : w114.cell? ⟨b_D,1,none⟩ = some (.int .i64 a0_1):=(a_a a_0.out 1).trans rfl;have y_m:=a_b a_0.out 0;have y_n:=a_b a_0.out 1)|((with_reducible refine a_P (f:=15) rfl ?_);refine b_v (some 64) rfl rfl Try.func15 (by kernel_rfl) rfl #[.agg #[.slice A0_0 l0_0.length c0_0,.int .i64 a0_1]] rfl (by (try simp only [List.map_toArray,List.map_cons,List.map_nil]);first|done|rfl|(simp only [List.length_drop,List.length_take];rfl)) ?_;(with_reducible refine (a_q.calls kj23 _ _ l0_0 a0_1 true _ ?side1 ?side2 A103.out).mono ?_);(case side1 => repeat (first|exact (Kd.b_f c_V.out HB.out)|(with_reducible refine Kd.a_9 ?_ _)|(with_reducible refine Kd.a_8 ?_ _)|(with_reducible refine Kd.b_i ?_)));(case side2 => exact f_w.out);rintro e w120 ⟨rfl,hb⟩;refine ⟨_,rfl,?_⟩;replace a_X:=a_e.mk (Kd.a_2 (by (with_reducible repeat (first|apply Kd.a_R|apply Kd.a_S|apply Kd.a_Z));exact a_X.out) hb);replace b_b:=a_e.mk (Kd.a_2 (by (with_reducible repeat (first|apply Kd.a_R|apply Kd.a_S|apply Kd.a_Z));exact b_b.out) hb);replace b_a:=a_e.mk (Kd.a_3 (by (with_reducible repeat (first|apply Kd.a_Q|apply Kd.a_O|apply Kd.a_W));exact b_a.out) hb);replace b_c:=a_e.mk (Kd.a_2 (by (with_reducible repeat (first|apply Kd.a_R|apply Kd.a_S|apply Kd.a_Z));exact b_c.out) hb);replace a_0:=a_e.mk (a_l (bup_ a_0.out) hb);replace b_p:=a_e.mk (a_l (bup_ b_p.out) hb);replace b_d:=a_e.mk (a_l (bup_ b_d.out) hb);replace b_O:=a_e.mk (a_l (bup_ b_O.out) hb);replace b_U:=a_e.mk (a_l (bup_ b_U.out) hb);replace b_9:=a_e.mk (a_l (bup_ b_9.out) hb);replace HB:=a_e.mk (a_t (by repeat (first|(with_reducible first|exact HB.out|apply a_g|apply a_f|apply a_h|refine a_d ?_ b_W.out|refine a_d ?_ b_2.out|refine a_d ?_ c_k.out|refine a_d ?_ c_M.out|refine a_d ?_ c_3.out|refine a_d ?_ d_O.out)|exact HB.out)) hb);(try clear hb);(try clear hb2);(try clear hk);(try clear hi);have y_o : w120.cell? ⟨b_D,0,none⟩ = some (.slice A0_0 l0_0.length c0_0):=(a_a a_0.out 0).trans rfl;have y_p : w120.cell? ⟨b_D,1,none⟩ = some (.int .i64 a0_1):=(a_a a_0.out 1).trans rfl;have y_q:=a_b a_0.out 0;have y_r:=a_b a_0.out 1;have L_T:=g_T.out;have L_U:=f_R.out;have L_V:=f_S.out;have L_W:=e_5.out;have L_X:=d_Z.out;have L_Y:=f_T.out;have y_s : w120.cell? ⟨c_1,0,none⟩ = some (.slice Ao47 t262.length co47):=(a_a b_U.out 0).trans rfl;have y_t : w120.cell? ⟨c_1,1,none⟩ = some (.int .i64 t265):=(a_a b_U.out 1).trans rfl;have y_u:=a_b b_U.out 0;have y_v:=a_b b_U.out 1))
       go_ret
       exact ⟨by first|rfl|(simp [a_w,a_x] <;> rfl)|(simp [*, a_w,a_x] <;> rfl),by repeat (first|(with_reducible first|exact HB.out|apply a_g|apply a_f|apply a_h|refine a_d ?_ b_W.out|refine a_d ?_ b_2.out|refine a_d ?_ c_k.out|refine a_d ?_ c_M.out|refine a_d ?_ c_3.out|refine a_d ?_ d_O.out)|exact HB.out)⟩
      rw [if_neg c107] at H
      have c107b0 : (t266 == 2) = false:=beq_eq_false_iff_ne.mpr c107
      have c107b1 : (t266 != 2) = true:=bne_iff_ne.mpr c107
      obtain rfl:=Option.some.inj H
      have L_Z:=d_K.out
      have L_0:=c_9.out
      have L_1:=d_L.out
      have L_2:=d_a.out
      have L_3:=c_0.out
      have L_4:=d_B.out
      have L_5:=d_c.out
      have L_6:=d_N.out
      have L_7:=c_m.out
      have L_8:=d_D.out
      have y_w : wc.cell? ⟨b_4,0,none⟩ = some (.slice Ao29 t251.length co29):=(a_a b_d.out 0).trans rfl
      have y_x : wc.cell? ⟨b_4,1,none⟩ = some (.int .i64 t254):=(a_a b_d.out 1).trans rfl
      have y_y:=a_b b_d.out 0
      have y_z:=a_b b_d.out 1
      go_wp2_with (first|((with_reducible refine a_P (f:=14) rfl ?_);refine b_v (some 61) rfl rfl Try.func14 (by kernel_rfl) rfl #[.agg #[.slice Ao29 t251.length co29,.int .i64 t254]] rfl (by (try simp only [List.map_toArray,List.map_cons,List.map_nil]);first|done|rfl|(simp only [List.length_drop,List.length_take];rfl)) ?_;(with_reducible refine (a_A.calls kj23 _ _ t251 t254 t276 _ ?side1 ?side2 A102.out).mono ?_);(case side1 => repeat (first|exact (Kd.b_A a_X.out).2.2|(with_reducible refine Kd.a_9 ?_ _)|(with_reducible refine Kd.a_8 ?_ _)|(with_reducible refine Kd.b_i ?_)));(case side2 => exact (Kd.b_A a_X.out).2.1);rintro e w132 ⟨rfl,hb⟩;refine ⟨_,rfl,?_⟩;replace a_X:=a_e.mk (Kd.a_2 (by (with_reducible repeat (first|apply Kd.a_R|apply Kd.a_S|apply Kd.a_Z));exact a_X.out) hb);replace b_b:=a_e.mk (Kd.a_2 (by (with_reducible repeat (first|apply Kd.a_R|apply Kd.a_S|apply Kd.a_Z));exact b_b.out) hb);replace b_a:=a_e.mk (Kd.a_3 (by (with_reducible repeat (first|apply Kd.a_Q|apply Kd.a_O|apply Kd.a_W));exact b_a.out) hb);replace b_c:=a_e.mk (Kd.a_2 (by (with_reducible repeat (first|apply Kd.a_R|apply Kd.a_S|apply Kd.a_Z));exact b_c.out) hb);replace a_0:=a_e.mk (a_l (bup_ a_0.out) hb);replace b_p:=a_e.mk (a_l (bup_ b_p.out) hb);replace b_d:=a_e.mk (a_l (bup_ b_d.out) hb);replace b_O:=a_e.mk (a_l (bup_ b_O.out) hb);replace b_U:=a_e.mk (a_l (bup_ b_U.out) hb);replace b_9:=a_e.mk (a_l (bup_ b_9.out) hb);replace HB:=a_e.mk (a_t (by repeat (first|(with_reducible first|exact HB.out|apply a_g|apply a_f|apply a_h|refine a_d ?_ b_W.out|refine a_d ?_ b_2.out|refine a_d ?_ c_k.out|refine a_d ?_ c_M.out|refine a_d ?_ c_3.out|refine a_d ?_ d_O.out)|exact HB.out)) hb);(try clear hb);(try clear hb2);(try clear hk);(try clear hi);have L_9:=c_X.out;have M_a:=c_Y.out;have M_b:=c_Z.out;have M_c:=d_A.out;have M_d:=d_b.out;have M_e:=d_M.out;have M_f:=c_l.out;have M_g:=d_C.out;have y_A : w132.cell? ⟨b_D,0,none⟩ = some (.slice A0_0 l0_0.length c0_0):=(a_a a_0.out 0).trans rfl;have y_B : w132.cell? ⟨b_D,1,none⟩ = some (.int .i64 a0_1):=(a_a a_0.out 1).trans rfl;have y_C:=a_b a_0.out 0;have y_D:=a_b a_0.out 1)|((with_reducible refine a_P (f:=15) rfl ?_);refine b_v (some 64) rfl rfl Try.func15 (by kernel_rfl) rfl #[.agg #[.slice A0_0 l0_0.length c0_0,.int .i64 a0_1]] rfl (by (try simp only [List.map_toArray,List.map_cons,List.map_nil]);first|done|rfl|(simp only [List.length_drop,List.length_take];rfl)) ?_;(with_reducible refine (a_q.calls kj23 _ _ l0_0 a0_1 true _ ?side1 ?side2 A103.out).mono ?_);(case side1 => repeat (first|exact (Kd.b_f c_V.out HB.out)|(with_reducible refine Kd.a_9 ?_ _)|(with_reducible refine Kd.a_8 ?_ _)|(with_reducible refine Kd.b_i ?_)));(case side2 => exact f_w.out);rintro e w138 ⟨rfl,hb⟩;refine ⟨_,rfl,?_⟩;replace a_X:=a_e.mk (Kd.a_2 (by (with_reducible repeat (first|apply Kd.a_R|apply Kd.a_S|apply Kd.a_Z));exact a_X.out) hb);replace b_b:=a_e.mk (Kd.a_2 (by (with_reducible repeat (first|apply Kd.a_R|apply Kd.a_S|apply Kd.a_Z));exact b_b.out) hb);replace b_a:=a_e.mk (Kd.a_3 (by (with_reducible repeat (first|apply Kd.a_Q|apply Kd.a_O|apply Kd.a_W));exact b_a.out) hb);replace b_c:=a_e.mk (Kd.a_2 (by (with_reducible repeat (first|apply Kd.a_R|apply Kd.a_S|apply Kd.a_Z));exact b_c.out) hb);replace a_0:=a_e.mk (a_l (bup_ a_0.out) hb);replace b_p:=a_e.mk (a_l (bup_ b_p.out) hb);replace b_d:=a_e.mk (a_l (bup_ b_d.out) hb);replace b_O:=a_e.mk (a_l (bup_ b_O.out) hb);replace b_U:=a_e.mk (a_l (bup_ b_U.out) hb);replace b_9:=a_e.mk (a_l (bup_ b_9.out) hb);replace HB:=a_e.mk (a_t (by repeat (first|(with_reducible first|exact HB.out|apply a_g|apply a_f|apply a_h|refine a_d ?_ b_W.out|refine a_d ?_ b_2.out|refine a_d ?_ c_k.out|refine a_d ?_ c_M.out|refine a_d ?_ c_3.out|refine a_d ?_ d_O.out)|exact HB.out)) hb);(try clear hb);(try clear hb2);(try clear hk);(try clear hi);have y_E : w138.cell? ⟨b_D,0,none⟩ = some (.slice A0_0 l0_0.length c0_0):=(a_a a_0.out 0).trans rfl;have y_F : w138.cell? ⟨b_D,1,none⟩ = some (.int .i64 a0_1):=(a_a a_0.out 1).trans rfl;have y_G:=a_b a_0.out 0;have y_H:=a_b a_0.out 1))
      go_ret
      exact ⟨by first|rfl|(simp [a_w,a_x] <;> rfl)|(simp [*, a_w,a_x] <;> rfl),by repeat (first|(with_reducible first|exact HB.out|apply a_g|apply a_f|apply a_h|refine a_d ?_ b_W.out|refine a_d ?_ b_2.out|refine a_d ?_ c_k.out|refine a_d ?_ c_M.out|refine a_d ?_ c_3.out|refine a_d ?_ d_O.out)|exact HB.out)⟩
     rw [if_neg c105] at H
     have c105b0 : decide (a2 < a0_1) = false:=decide_eq_false c105
     clear c105
     by_cases c154 : a2 > 1125899906842624
     ·rw [if_pos c154] at H
      have c154b0 : decide (1125899906842624 < a2) = true:=decide_eq_true c154
      clear c154
      by_cases c155 : t276 = 0
      rotate_left
      ·rw [if_neg c155] at H
       have c155b0 : (t276 == 0) = false:=beq_eq_false_iff_ne.mpr c155
       have c155b1 : (t276 != 0) = true:=bne_iff_ne.mpr c155
       obtain rfl:=Option.some.inj H
       have M_h:=d_K.out
       have M_i:=c_9.out
       have M_j:=d_L.out
       have M_k:=d_a.out
       have M_l:=c_0.out
       have M_m:=d_B.out
       have M_n:=d_c.out
       have M_o:=d_N.out
       have M_p:=c_m.out
       have M_q:=d_D.out
       have y_I : wc.cell? ⟨b_4,0,none⟩ = some (.slice Ao29 t251.length co29):=(a_a b_d.out 0).trans rfl
       have y_J : wc.cell? ⟨b_4,1,none⟩ = some (.int .i64 t254):=(a_a b_d.out 1).trans rfl
       have y_K:=a_b b_d.out 0
       have y_L:=a_b b_d.out 1
       go_wp2_with (first|((with_reducible refine a_P (f:=14) rfl ?_);refine b_v (some 61) rfl rfl Try.func14 (by kernel_rfl) rfl #[.agg #[.slice Ao29 t251.length co29,.int .i64 t254]] rfl (by (try simp only [List.map_toArray,List.map_cons,List.map_nil]);first|done|rfl|(simp only [List.length_drop,List.length_take];rfl)) ?_;(with_reducible refine (a_A.calls kj23 _ _ t251 t254 t276 _ ?side1 ?side2 A102.out).mono ?_);(case side1 => repeat (first|exact (Kd.b_A a_X.out).2.2|(with_reducible refine Kd.a_9 ?_ _)|(with_reducible refine Kd.a_8 ?_ _)|(with_reducible refine Kd.b_i ?_)));(case side2 => exact (Kd.b_A a_X.out).2.1);rintro e w195 ⟨rfl,hb⟩;refine ⟨_,rfl,?_⟩;replace a_X:=a_e.mk (Kd.a_2 (by (with_reducible repeat (first|apply Kd.a_R|apply Kd.a_S|apply Kd.a_Z));exact a_X.out) hb);replace b_b:=a_e.mk (Kd.a_2 (by (with_reducible repeat (first|apply Kd.a_R|apply Kd.a_S|apply Kd.a_Z));exact b_b.out) hb);replace b_a:=a_e.mk (Kd.a_3 (by (with_reducible repeat (first|apply Kd.a_Q|apply Kd.a_O|apply Kd.a_W));exact b_a.out) hb);replace b_c:=a_e.mk (Kd.a_2 (by (with_reducible repeat (first|apply Kd.a_R|apply Kd.a_S|apply Kd.a_Z));exact b_c.out) hb);replace a_0:=a_e.mk (a_l (bup_ a_0.out) hb);replace b_p:=a_e.mk (a_l (bup_ b_p.out) hb);replace b_d:=a_e.mk (a_l (bup_ b_d.out) hb);replace b_O:=a_e.mk (a_l (bup_ b_O.out) hb);replace b_U:=a_e.mk (a_l (bup_ b_U.out) hb);replace b_9:=a_e.mk (a_l (bup_ b_9.out) hb);replace HB:=a_e.mk (a_t (by repeat (first|(with_reducible first|exact HB.out|apply a_g|apply a_f|apply a_h|refine a_d ?_ b_W.out|refine a_d ?_ b_2.out|refine a_d ?_ c_k.out|refine a_d ?_ c_M.out|refine a_d ?_ c_3.out|refine a_d ?_ d_O.out)|exact HB.out)) hb);(try clear hb);(try clear hb2);(try clear hk);(try clear hi);have M_r:=c_X.out;have M_s:=c_Y.out;have M_t:=c_Z.out;have M_u:=d_A.out;have M_v:=d_b.out;have M_w:=d_M.out;have M_x:=c_l.out;have M_y:=d_C.out;have y_M : w195.cell? ⟨b_D,0,none⟩ = some (.slice A0_0 l0_0.length c0_0):=(a_a a_0.out 0).trans rfl;have y_N : w195.cell? ⟨b_D,1,none⟩ = some (.int .i64 a0_1):=(a_a a_0.out 1).trans rfl;have y_O:=a_b a_0.out 0;have y_P:=a_b a_0.out 1)|((with_reducible refine a_P (f:=15) rfl ?_);refine b_v (some 64) rfl rfl Try.func15 (by kernel_rfl) rfl #[.agg #[.slice A0_0 l0_0.length c0_0,.int .i64 a0_1]] rfl (by (try simp only [List.map_toArray,List.map_cons,List.map_nil]);first|done|rfl|(simp only [List.length_drop,List.length_take];rfl)) ?_;(with_reducible refine (a_q.calls kj23 _ _ l0_0 a0_1 true _ ?side1 ?side2 A103.out).mono ?_);(case side1 => repeat (first|exact (Kd.b_f c_V.out HB.out)|(with_reducible refine Kd.a_9 ?_ _)|(with_reducible refine Kd.a_8 ?_ _)|(with_reducible refine Kd.b_i ?_)));(case side2 => exact f_w.out);rintro e w201 ⟨rfl,hb⟩;refine ⟨_,rfl,?_⟩;replace a_X:=a_e.mk (Kd.a_2 (by (with_reducible repeat (first|apply Kd.a_R|apply Kd.a_S|apply Kd.a_Z));exact a_X.out) hb);replace b_b:=a_e.mk (Kd.a_2 (by (with_reducible repeat (first|apply Kd.a_R|apply Kd.a_S|apply Kd.a_Z));exact b_b.out) hb);replace b_a:=a_e.mk (Kd.a_3 (by (with_reducible repeat (first|apply Kd.a_Q|apply Kd.a_O|apply Kd.a_W));exact b_a.out) hb);replace b_c:=a_e.mk (Kd.a_2 (by (with_reducible repeat (first|apply Kd.a_R|apply Kd.a_S|apply Kd.a_Z));exact b_c.out) hb);replace a_0:=a_e.mk (a_l (bup_ a_0.out) hb);replace b_p:=a_e.mk (a_l (bup_ b_p.out) hb);replace b_d:=a_e.mk (a_l (bup_ b_d.out) hb);replace b_O:=a_e.mk (a_l (bup_ b_O.out) hb);replace b_U:=a_e.mk (a_l (bup_ b_U.out) hb);replace b_9:=a_e.mk (a_l (bup_ b_9.out) hb);replace HB:=a_e.mk (a_t (by repeat (first|(with_reducible first|exact HB.out|apply a_g|apply a_f|apply a_h|refine a_d ?_ b_W.out|refine a_d ?_ b_2.out|refine a_d ?_ c_k.out|refine a_d ?_ c_M.out|refine a_d ?_ c_3.out|refine a_d ?_ d_O.out)|exact HB.out)) hb);(try clear hb);(try clear hb2);(try clear hk);(try clear hi);have y_Q : w201.cell? ⟨b_D,0,none⟩ = some (.slice A0_0 l0_0.length c0_0):=(a_a a_0.out 0).trans rfl;have y_R : w201.cell? ⟨b_D,1,none⟩ = some (.int .i64 a0_1):=(a_a a_0.out 1).trans rfl;have y_S:=a_b a_0.out 0;have y_T:=a_b a_0.out 1))
       go_ret
       exact ⟨by first|rfl|(simp [a_w,a_x] <;> rfl)|(simp [*, a_w,a_x] <;> rfl),by repeat (first|(with_reducible first|exact HB.out|apply a_g|apply a_f|apply a_h|refine a_d ?_ b_W.out|refine a_d ?_ b_2.out|refine a_d ?_ c_k.out|refine a_d ?_ c_M.out|refine a_d ?_ c_3.out|refine a_d ?_ d_O.out)|exact HB.out)⟩
      rw [if_pos c155] at H
      have c155b0 : (t276 == 0) = true:=beq_iff_eq.mpr c155
      have c155b1 : (t276 != 0) = false:=bne_eq_false_iff_eq.mpr c155
      clear c155
      by_cases c156 : t266 = 2
      ·rw [if_pos c156] at H
       have c156b0 : (t266 == 2) = true:=beq_iff_eq.mpr c156
       have c156b1 : (t266 != 2) = false:=bne_eq_false_iff_eq.mpr c156
       clear c156
       obtain rfl:=Option.some.inj H
       have M_z:=d_K.out
       have M_A:=c_9.out
       have M_B:=d_L.out
       have M_C:=d_a.out
       have M_D:=c_0.out
       have M_E:=d_B.out
       have M_F:=d_c.out
       have M_G:=d_N.out
       have M_H:=c_m.out
       have M_I:=d_D.out
       have y_U : wc.cell? ⟨b_4,0,none⟩ = some (.slice Ao29 t251.length co29):=(a_a b_d.out 0).trans rfl
       have y_V : wc.cell? ⟨b_4,1,none⟩ = some (.int .i64 t254):=(a_a b_d.out 1).trans rfl
       have y_W:=a_b b_d.out 0
       have y_X:=a_b b_d.out 1
       go_wp2_with (first|((with_reducible refine a_P (f:=14) rfl ?_);refine b_v (some 61) rfl rfl Try.func14 (by kernel_rfl) rfl #[.agg #[.slice Ao29 t251.length co29,.int .i64 t254]] rfl (by (try simp only [List.map_toArray,List.map_cons,List.map_nil]);first|done|rfl|(simp only [List.length_drop,List.length_take];rfl)) ?_;(with_reducible refine (a_A.calls kj23 _ _ t251 t254 t276 _ ?side1 ?side2 A102.out).mono ?_);(case side1 => repeat (first|exact (Kd.b_A a_X.out).2.2|(with_reducible refine Kd.a_9 ?_ _)|(with_reducible refine Kd.a_8 ?_ _)|(with_reducible refine Kd.b_i ?_)));(case side2 => exact (Kd.b_A a_X.out).2.1);rintro e w163 ⟨rfl,hb⟩;refine ⟨_,rfl,?_⟩;replace a_X:=a_e.mk (Kd.a_2 (by (with_reducible repeat (first|apply Kd.a_R|apply Kd.a_S|apply Kd.a_Z));exact a_X.out) hb);replace b_b:=a_e.mk (Kd.a_2 (by (with_reducible repeat (first|apply Kd.a_R|apply Kd.a_S|apply Kd.a_Z));exact b_b.out) hb);replace b_a:=a_e.mk (Kd.a_3 (by (with_reducible repeat (first|apply Kd.a_Q|apply Kd.a_O|apply Kd.a_W));exact b_a.out) hb);replace b_c:=a_e.mk (Kd.a_2 (by (with_reducible repeat (first|apply Kd.a_R|apply Kd.a_S|apply Kd.a_Z));exact b_c.out) hb);replace a_0:=a_e.mk (a_l (bup_ a_0.out) hb);replace b_p:=a_e.mk (a_l (bup_ b_p.out) hb);replace b_d:=a_e.mk (a_l (bup_ b_d.out) hb);replace b_O:=a_e.mk (a_l (bup_ b_O.out) hb);replace b_U:=a_e.mk (a_l (bup_ b_U.out) hb);replace b_9:=a_e.mk (a_l (bup_ b_9.out) hb);replace HB:=a_e.mk (a_t (by repeat (first|(with_reducible first|exact HB.out|apply a_g|apply a_f|apply a_h|refine a_d ?_ b_W.out|refine a_d ?_ b_2.out|refine a_d ?_ c_k.out|refine a_d ?_ c_M.out|refine a_d ?_ c_3.out|refine a_d ?_ d_O.out)|exact HB.out)) hb);(try clear hb);(try clear hb2);(try clear hk);(try clear hi);have M_J:=c_X.out;have M_K:=c_Y.out;have M_L:=c_Z.out;have M_M:=d_A.out;have M_N:=d_b.out;have M_O:=d_M.out;have M_P:=c_l.out;have M_Q:=d_C.out;have y_Y : w163.cell? ⟨b_D,0,none⟩ = some (.slice A0_0 l0_0.length c0_0):=(a_a a_0.out 0).trans rfl;have y_Z : w163.cell? ⟨b_D,1,none⟩ = some (.int .i64 a0_1):=(a_a a_0.out 1).trans rfl;have y_0:=a_b a_0.out 0;have y_1:=a_b a_0.out 1)|((with_reducible refine a_P (f:=15) rfl ?_);refine b_v (some 64) rfl rfl Try.func15 (by kernel_rfl) rfl #[.agg #[.slice A0_0 l0_0.length c0_0,.int .i64 a0_1]] rfl (by (try simp only [List.map_toArray,List.map_cons,List.map_nil]);first|done|rfl|(simp only [List.length_drop,List.length_take];rfl)) ?_;(with_reducible refine (a_q.calls kj23 _ _ l0_0 a0_1 true _ ?side1 ?side2 A103.out).mono ?_);(case side1 => repeat (first|exact (Kd.b_f c_V.out HB.out)|(with_reducible refine Kd.a_9 ?_ _)|(with_reducible refine Kd.a_8 ?_ _)|(with_reducible refine Kd.b_i ?_)));(case side2 => exact f_w.out);rintro e w169 ⟨rfl,hb⟩;refine ⟨_,rfl,?_⟩;replace a_X:=a_e.mk (Kd.a_2 (by (with_reducible repeat (first|apply Kd.a_R|apply Kd.a_S|apply Kd.a_Z));exact a_X.out) hb);replace b_b:=a_e.mk (Kd.a_2 (by (with_reducible repeat (first|apply Kd.a_R|apply Kd.a_S|apply Kd.a_Z));exact b_b.out) hb);replace b_a:=a_e.mk (Kd.a_3 (by (with_reducible repeat (first|apply Kd.a_Q|apply Kd.a_O|apply Kd.a_W));exact b_a.out) hb);replace b_c:=a_e.mk (Kd.a_2 (by (with_reducible repeat (first|apply Kd.a_R|apply Kd.a_S|apply Kd.a_Z));exact b_c.out) hb);replace a_0:=a_e.mk (a_l (bup_ a_0.out) hb);replace b_p:=a_e.mk (a_l (bup_ b_p.out) hb);replace b_d:=a_e.mk (a_l (bup_ b_d.out) hb);replace b_O:=a_e.mk (a_l (bup_ b_O.out) hb);replace b_U:=a_e.mk (a_l (bup_ b_U.out) hb);replace b_9:=a_e.mk (a_l (bup_ b_9.out) hb);replace HB:=a_e.mk (a_t (by repeat (first|(with_reducible first|exact HB.out|apply a_g|apply a_f|apply a_h|refine a_d ?_ b_W.out|refine a_d ?_ b_2.out|refine a_d ?_ c_k.out|refine a_d ?_ c_M.out|refine a_d ?_ c_3.out|refine a_d ?_ d_O.out)|exact HB.out)) hb);(try clear hb);(try clear hb2);(try clear hk);(try clear hi);have y_2 : w169.cell? ⟨b_D,0,none⟩ = some (.slice A0_0 l0_0.length c0_0):=(a_a a_0.out 0).trans rfl;have y_3 : w169.cell? ⟨b_D,1,none⟩ = some (.int .i64 a0_1):=(a_a a_0.out 1).trans rfl;have y_4:=a_b a_0.out 0;have y_5:=a_b a_0.out 1;have M_R:=g_T.out;have M_S:=f_R.out;have M_T:=f_S.out;have M_U:=e_5.out;have M_V:=d_Z.out;have M_W:=f_T.out;have y_6 : w169.cell? ⟨c_1,0,none⟩ = some (.slice Ao47 t262.length co47):=(a_a b_U.out 0).trans rfl;have y_7 : w169.cell? ⟨c_1,1,none⟩ = some (.int .i64 t265):=(a_a b_U.out 1).trans rfl;have y_8:=a_b b_U.out 0;have y_9:=a_b b_U.out 1))
       go_ret
       exact ⟨by first|rfl|(simp [a_w,a_x] <;> rfl)|(simp [*, a_w,a_x] <;> rfl),by repeat (first|(with_reducible first|exact HB.out|apply a_g|apply a_f|apply a_h|refine a_d ?_ b_W.out|refine a_d ?_ b_2.out|refine a_d ?_ c_k.out|refine a_d ?_ c_M.out|refine a_d ?_ c_3.out|refine a_d ?_ d_O.out)|exact HB.out)⟩
      rw [if_neg c156] at H
      have c156b0 : (t266 == 2) = false:=beq_eq_false_iff_ne.mpr c156
      have c156b1 : (t266 != 2) = true:=bne_iff_ne.mpr c156
      obtain rfl:=Option.some.inj H
      have M_X:=d_K.out
      have M_Y:=c_9.out
      have M_Z:=d_L.out
      have M_0:=d_a.out
      have M_1:=c_0.out
      have M_2:=d_B.out
      have M_3:=d_c.out
      have M_4:=d_N.out
      have M_5:=c_m.out
      have M_6:=d_D.out
      have z_a : wc.cell? ⟨b_4,0,none⟩ = some (.slice Ao29 t251.length co29):=(a_a b_d.out 0).trans rfl
      have z_b : wc.cell? ⟨b_4,1,none⟩ = some (.int .i64 t254):=(a_a b_d.out 1).trans rfl
      have z_c:=a_b b_d.out 0
      have z_d:=a_b b_d.out 1
      go_wp2_with (first|((with_reducible refine a_P (f:=14) rfl ?_);refine b_v (some 61) rfl rfl Try.func14 (by kernel_rfl) rfl #[.agg #[.slice Ao29 t251.length co29,.int .i64 t254]] rfl (by (try simp only [List.map_toArray,List.map_cons,List.map_nil]);first|done|rfl|(simp only [List.length_drop,List.length_take];rfl)) ?_;(with_reducible refine (a_A.calls kj23 _ _ t251 t254 t276 _ ?side1 ?side2 A102.out).mono ?_);(case side1 => repeat (first|exact (Kd.b_A a_X.out).2.2|(with_reducible refine Kd.a_9 ?_ _)|(with_reducible refine Kd.a_8 ?_ _)|(with_reducible refine Kd.b_i ?_)));(case side2 => exact (Kd.b_A a_X.out).2.1);rintro e w181 ⟨rfl,hb⟩;refine ⟨_,rfl,?_⟩;replace a_X:=a_e.mk (Kd.a_2 (by (with_reducible repeat (first|apply Kd.a_R|apply Kd.a_S|apply Kd.a_Z));exact a_X.out) hb);replace b_b:=a_e.mk (Kd.a_2 (by (with_reducible repeat (first|apply Kd.a_R|apply Kd.a_S|apply Kd.a_Z));exact b_b.out) hb);replace b_a:=a_e.mk (Kd.a_3 (by (with_reducible repeat (first|apply Kd.a_Q|apply Kd.a_O|apply Kd.a_W));exact b_a.out) hb);replace b_c:=a_e.mk (Kd.a_2 (by (with_reducible repeat (first|apply Kd.a_R|apply Kd.a_S|apply Kd.a_Z));exact b_c.out) hb);replace a_0:=a_e.mk (a_l (bup_ a_0.out) hb);replace b_p:=a_e.mk (a_l (bup_ b_p.out) hb);replace b_d:=a_e.mk (a_l (bup_ b_d.out) hb);replace b_O:=a_e.mk (a_l (bup_ b_O.out) hb);replace b_U:=a_e.mk (a_l (bup_ b_U.out) hb);replace b_9:=a_e.mk (a_l (bup_ b_9.out) hb);replace HB:=a_e.mk (a_t (by repeat (first|(with_reducible first|exact HB.out|apply a_g|apply a_f|apply a_h|refine a_d ?_ b_W.out|refine a_d ?_ b_2.out|refine a_d ?_ c_k.out|refine a_d ?_ c_M.out|refine a_d ?_ c_3.out|refine a_d ?_ d_O.out)|exact HB.out)) hb);(try clear hb);(try clear hb2);(try clear hk);(try clear hi);have M_7:=c_X.out;have M_8:=c_Y.out;have M_9:=c_Z.out;have N_a:=d_A.out;have N_b:=d_b.out;have N_c:=d_M.out;have N_d:=c_l.out;have N_e:=d_C.out;have z_e : w181.cell? ⟨b_D,0,none⟩ = some (.slice A0_0 l0_0.length c0_0):=(a_a a_0.out 0).trans rfl;have z_f : w181.cell? ⟨b_D,1,none⟩ = some (.int .i64 a0_1):=(a_a a_0.out 1).trans rfl;have z_g:=a_b a_0.out 0;have z_h:=a_b a_0.out 1)|((with_reducible refine a_P (f:=15) rfl ?_);refine b_v (some 64) rfl rfl Try.func15 (by kernel_rfl) rfl #[.agg #[.slice A0_0 l0_0.length c0_0,.int .i64 a0_1]] rfl (by (try simp only [List.map_toArray,List.map_cons,List.map_nil]);first|done|rfl|(simp only [List.length_drop,List.length_take];rfl)) ?_;(with_reducible refine (a_q.calls kj23 _ _ l0_0 a0_1 true _ ?side1 ?side2 A103.out).mono ?_);(case side1 => repeat (first|exact (Kd.b_f c_V.out HB.out)|(with_reducible refine Kd.a_9 ?_ _)|(with_reducible refine Kd.a_8 ?_ _)|(with_reducible refine Kd.b_i ?_)));(case side2 => exact f_w.out);rintro e w187 ⟨rfl,hb⟩;refine ⟨_,rfl,?_⟩;replace a_X:=a_e.mk (Kd.a_2 (by (with_reducible repeat (first|apply Kd.a_R|apply Kd.a_S|apply Kd.a_Z));exact a_X.out) hb);replace b_b:=a_e.mk (Kd.a_2 (by (with_reducible repeat (first|apply Kd.a_R|apply Kd.a_S|apply Kd.a_Z));exact b_b.out) hb);replace b_a:=a_e.mk (Kd.a_3 (by (with_reducible repeat (first|apply Kd.a_Q|apply Kd.a_O|apply Kd.a_W));exact b_a.out) hb);replace b_c:=a_e.mk (Kd.a_2 (by (with_reducible repeat (first|apply Kd.a_R|apply Kd.a_S|apply Kd.a_Z));exact b_c.out) hb);replace a_0:=a_e.mk (a_l (bup_ a_0.out) hb);replace b_p:=a_e.mk (a_l (bup_ b_p.out) hb);replace b_d:=a_e.mk (a_l (bup_ b_d.out) hb);replace b_O:=a_e.mk (a_l (bup_ b_O.out) hb);replace b_U:=a_e.mk (a_l (bup_ b_U.out) hb);replace b_9:=a_e.mk (a_l (bup_ b_9.out) hb);replace HB:=a_e.mk (a_t (by repeat (first|(with_reducible first|exact HB.out|apply a_g|apply a_f|apply a_h|refine a_d ?_ b_W.out|refine a_d ?_ b_2.out|refine a_d ?_ c_k.out|refine a_d ?_ c_M.out|refine a_d ?_ c_3.out|refine a_d ?_ d_O.out)|exact HB.out)) hb);(try clear hb);(try clear hb2);(try clear hk);(try clear hi);have z_i : w187.cell? ⟨b_D,0,none⟩ = some (.slice A0_0 l0_0.length c0_0):=(a_a a_0.out 0).trans rfl;have z_j : w187.cell? ⟨b_D,1,none⟩ = some (.int .i64 a0_1):=(a_a a_0.out 1).trans rfl;have z_k:=a_b a_0.out 0;have z_l:=a_b a_0.out 1))
      go_ret
      exact ⟨by first|rfl|(simp [a_w,a_x] <;> rfl)|(simp [*, a_w,a_x] <;> rfl),by repeat (first|(with_reducible first|exact HB.out|apply a_g|apply a_f|apply a_h|refine a_d ?_ b_W.out|refine a_d ?_ b_2.out|refine a_d ?_ c_k.out|refine a_d ?_ c_M.out|refine a_d ?_ c_3.out|refine a_d ?_ d_O.out)|exact HB.out)⟩
     rw [if_neg c154] at H
     have c154b0 : decide (1125899906842624 < a2) = false:=decide_eq_false c154
     clear c154
     by_cases c203 : t276 = 0
     rotate_left
     ·rw [if_neg c203] at H
      have c203b0 : (t276 == 0) = false:=beq_eq_false_iff_ne.mpr c203
      have c203b1 : (t276 != 0) = true:=bne_iff_ne.mpr c203
      obtain rfl:=Option.some.inj H
      have N_f:=d_K.out
      have N_g:=c_9.out
      have N_h:=d_L.out
      have N_i:=d_a.out
      have N_j:=c_0.out
      have N_k:=d_B.out
      have N_l:=d_c.out
      have N_m:=d_N.out
      have N_n:=c_m.out
      have N_o:=d_D.out
      have z_m : wc.cell? ⟨b_4,0,none⟩ = some (.slice Ao29 t251.length co29):=(a_a b_d.out 0).trans rfl
      have z_n : wc.cell? ⟨b_4,1,none⟩ = some (.int .i64 t254):=(a_a b_d.out 1).trans rfl
      have z_o:=a_b b_d.out 0
      have z_p:=a_b b_d.out 1
      go_wp2_with (first|((with_reducible refine a_P (f:=14) rfl ?_);refine b_v (some 61) rfl rfl Try.func14 (by kernel_rfl) rfl #[.agg #[.slice Ao29 t251.length co29,.int .i64 t254]] rfl (by (try simp only [List.map_toArray,List.map_cons,List.map_nil]);first|done|rfl|(simp only [List.length_drop,List.length_take];rfl)) ?_;(with_reducible refine (a_A.calls kj23 _ _ t251 t254 t276 _ ?side1 ?side2 A102.out).mono ?_);(case side1 => repeat (first|exact (Kd.b_A a_X.out).2.2|(with_reducible refine Kd.a_9 ?_ _)|(with_reducible refine Kd.a_8 ?_ _)|(with_reducible refine Kd.b_i ?_)));(case side2 => exact (Kd.b_A a_X.out).2.1);rintro e w245 ⟨rfl,hb⟩;refine ⟨_,rfl,?_⟩;replace a_X:=a_e.mk (Kd.a_2 (by (with_reducible repeat (first|apply Kd.a_R|apply Kd.a_S|apply Kd.a_Z));exact a_X.out) hb);replace b_b:=a_e.mk (Kd.a_2 (by (with_reducible repeat (first|apply Kd.a_R|apply Kd.a_S|apply Kd.a_Z));exact b_b.out) hb);replace b_a:=a_e.mk (Kd.a_3 (by (with_reducible repeat (first|apply Kd.a_Q|apply Kd.a_O|apply Kd.a_W));exact b_a.out) hb);replace b_c:=a_e.mk (Kd.a_2 (by (with_reducible repeat (first|apply Kd.a_R|apply Kd.a_S|apply Kd.a_Z));exact b_c.out) hb);replace a_0:=a_e.mk (a_l (bup_ a_0.out) hb);replace b_p:=a_e.mk (a_l (bup_ b_p.out) hb);replace b_d:=a_e.mk (a_l (bup_ b_d.out) hb);replace b_O:=a_e.mk (a_l (bup_ b_O.out) hb);replace b_U:=a_e.mk (a_l (bup_ b_U.out) hb);replace b_9:=a_e.mk (a_l (bup_ b_9.out) hb);replace HB:=a_e.mk (a_t (by repeat (first|(with_reducible first|exact HB.out|apply a_g|apply a_f|apply a_h|refine a_d ?_ b_W.out|refine a_d ?_ b_2.out|refine a_d ?_ c_k.out|refine a_d ?_ c_M.out|refine a_d ?_ c_3.out|refine a_d ?_ d_O.out)|exact HB.out)) hb);(try clear hb);(try clear hb2);(try clear hk);(try clear hi);have N_p:=c_X.out;have N_q:=c_Y.out;have N_r:=c_Z.out;have N_s:=d_A.out;have N_t:=d_b.out;have N_u:=d_M.out;have N_v:=c_l.out;have N_w:=d_C.out;have z_q : w245.cell? ⟨b_D,0,none⟩ = some (.slice A0_0 l0_0.length c0_0):=(a_a a_0.out 0).trans rfl;have z_r : w245.cell? ⟨b_D,1,none⟩ = some (.int .i64 a0_1):=(a_a a_0.out 1).trans rfl;have z_s:=a_b a_0.out 0;have z_t:=a_b a_0.out 1)|((with_reducible refine a_P (f:=15) rfl ?_);refine b_v (some 64) rfl rfl Try.func15 (by kernel_rfl) rfl #[.agg #[.slice A0_0 l0_0.length c0_0,.int .i64 a0_1]] rfl (by (try simp only [List.map_toArray,List.map_cons,List.map_nil]);first|done|rfl|(simp only [List.length_drop,List.length_take];rfl)) ?_;(with_reducible refine (a_q.calls kj23 _ _ l0_0 a0_1 true _ ?side1 ?side2 A103.out).mono ?_);(case side1 => repeat (first|exact (Kd.b_f c_V.out HB.out)|(with_reducible refine Kd.a_9 ?_ _)|(with_reducible refine Kd.a_8 ?_ _)|(with_reducible refine Kd.b_i ?_)));(case side2 => exact f_w.out);rintro e w251 ⟨rfl,hb⟩;refine ⟨_,rfl,?_⟩;replace a_X:=a_e.mk (Kd.a_2 (by (with_reducible repeat (first|apply Kd.a_R|apply Kd.a_S|apply Kd.a_Z));exact a_X.out) hb);replace b_b:=a_e.mk (Kd.a_2 (by (with_reducible repeat (first|apply Kd.a_R|apply Kd.a_S|apply Kd.a_Z));exact b_b.out) hb);replace b_a:=a_e.mk (Kd.a_3 (by (with_reducible repeat (first|apply Kd.a_Q|apply Kd.a_O|apply Kd.a_W));exact b_a.out) hb);replace b_c:=a_e.mk (Kd.a_2 (by (with_reducible repeat (first|apply Kd.a_R|apply Kd.a_S|apply Kd.a_Z));exact b_c.out) hb);replace a_0:=a_e.mk (a_l (bup_ a_0.out) hb);replace b_p:=a_e.mk (a_l (bup_ b_p.out) hb);replace b_d:=a_e.mk (a_l (bup_ b_d.out) hb);replace b_O:=a_e.mk (a_l (bup_ b_O.out) hb);replace b_U:=a_e.mk (a_l (bup_ b_U.out) hb);replace b_9:=a_e.mk (a_l (bup_ b_9.out) hb);replace HB:=a_e.mk (a_t (by repeat (first|(with_reducible first|exact HB.out|apply a_g|apply a_f|apply a_h|refine a_d ?_ b_W.out|refine a_d ?_ b_2.out|refine a_d ?_ c_k.out|refine a_d ?_ c_M.out|refine a_d ?_ c_3.out|refine a_d ?_ d_O.out)|exact HB.out)) hb);(try clear hb);(try clear hb2);(try clear hk);(try clear hi);have z_u : w251.cell? ⟨b_D,0,none⟩ = some (.slice A0_0 l0_0.length c0_0):=(a_a a_0.out 0).trans rfl;have z_v : w251.cell? ⟨b_D,1,none⟩ = some (.int .i64 a0_1):=(a_a a_0.out 1).trans rfl;have z_w:=a_b a_0.out 0;have z_x:=a_b a_0.out 1))
      go_ret
      exact ⟨by first|rfl|(simp [a_w,a_x] <;> rfl)|(simp [*, a_w,a_x] <;> rfl),by repeat (first|(with_reducible first|exact HB.out|apply a_g|apply a_f|apply a_h|refine a_d ?_ b_W.out|refine a_d ?_ b_2.out|refine a_d ?_ c_k.out|refine a_d ?_ c_M.out|refine a_d ?_ c_3.out|refine a_d ?_ d_O.out)|exact HB.out)⟩
     rw [if_pos c203] at H
     have c203b0 : (t276 == 0) = true:=beq_iff_eq.mpr c203
     have c203b1 : (t276 != 0) = false:=bne_eq_false_iff_eq.mpr c203
     clear c203
     by_cases c204 : t266 = 0
     rotate_left
     ·rw [if_neg c204] at H
      have c204b0 : (t266 == 0) = false:=beq_eq_false_iff_ne.mpr c204
      have c204b1 : (t266 != 0) = true:=bne_iff_ne.mpr c204
      obtain rfl:=Option.some.inj H
      have N_x:=d_K.out
      have N_y:=c_9.out
      have N_z:=d_L.out
      have N_A:=d_a.out
      have N_B:=c_0.out
      have N_C:=d_B.out
      have N_D:=d_c.out
      have N_E:=d_N.out
      have N_G:=c_m.out
      have N_H:=d_D.out
      have z_y : wc.cell? ⟨b_4,0,none⟩ = some (.slice Ao29 t251.length co29):=(a_a b_d.out 0).trans rfl
      have z_z : wc.cell? ⟨b_4,1,none⟩ = some (.int .i64 t254):=(a_a b_d.out 1).trans rfl
      have z_A:=a_b b_d.out 0
      have z_B:=a_b b_d.out 1
      go_wp2_with (first|((with_reducible refine a_P (f:=14) rfl ?_);refine b_v (some 61) rfl rfl Try.func14 (by kernel_rfl) rfl #[.agg #[.slice Ao29 t251.length co29,.int .i64 t254]] rfl (by (try simp only [List.map_toArray,List.map_cons,List.map_nil]);first|done|rfl|(simp only [List.length_drop,List.length_take];rfl)) ?_;(with_reducible refine (a_A.calls kj23 _ _ t251 t254 t276 _ ?side1 ?side2 A102.out).mono ?_);(case side1 => repeat (first|exact (Kd.b_A a_X.out).2.2|(with_reducible refine Kd.a_9 ?_ _)|(with_reducible refine Kd.a_8 ?_ _)|(with_reducible refine Kd.b_i ?_)));(case side2 => exact (Kd.b_A a_X.out).2.1);rintro e w231 ⟨rfl,hb⟩;refine ⟨_,rfl,?_⟩;replace a_X:=a_e.mk (Kd.a_2 (by (with_reducible repeat (first|apply Kd.a_R|apply Kd.a_S|apply Kd.a_Z));exact a_X.out) hb);replace b_b:=a_e.mk (Kd.a_2 (by (with_reducible repeat (first|apply Kd.a_R|apply Kd.a_S|apply Kd.a_Z));exact b_b.out) hb);replace b_a:=a_e.mk (Kd.a_3 (by (with_reducible repeat (first|apply Kd.a_Q|apply Kd.a_O|apply Kd.a_W));exact b_a.out) hb);replace b_c:=a_e.mk (Kd.a_2 (by (with_reducible repeat (first|apply Kd.a_R|apply Kd.a_S|apply Kd.a_Z));exact b_c.out) hb);replace a_0:=a_e.mk (a_l (bup_ a_0.out) hb);replace b_p:=a_e.mk (a_l (bup_ b_p.out) hb);replace b_d:=a_e.mk (a_l (bup_ b_d.out) hb);replace b_O:=a_e.mk (a_l (bup_ b_O.out) hb);replace b_U:=a_e.mk (a_l (bup_ b_U.out) hb);replace b_9:=a_e.mk (a_l (bup_ b_9.out) hb);replace HB:=a_e.mk (a_t (by repeat (first|(with_reducible first|exact HB.out|apply a_g|apply a_f|apply a_h|refine a_d ?_ b_W.out|refine a_d ?_ b_2.out|refine a_d ?_ c_k.out|refine a_d ?_ c_M.out|refine a_d ?_ c_3.out|refine a_d ?_ d_O.out)|exact HB.out)) hb);(try clear hb);(try clear hb2);(try clear hk);(try clear hi);have N_I:=c_X.out;have N_J:=c_Y.out;have N_K:=c_Z.out;have N_L:=d_A.out;have N_M:=d_b.out;have N_N:=d_M.out;have N_O:=c_l.out;have N_P:=d_C.out;have z_C : w231.cell? ⟨b_D,0,none⟩ = some (.slice A0_0 l0_0.length c0_0):=(a_a a_0.out 0).trans rfl;have z_D : w231.cell? ⟨b_D,1,none⟩ = some (.int .i64 a0_1):=(a_a a_0.out 1).trans rfl;have z_E:=a_b a_0.out 0;have z_F:=a_b a_0.out 1)|((with_reducible refine a_P (f:=15) rfl ?_);refine b_v (some 64) rfl rfl Try.func15 (by kernel_rfl) rfl #[.agg #[.slice A0_0 l0_0.length c0_0,.int .i64 a0_1]] rfl (by (try simp only [List.map_toArray,List.map_cons,List.map_nil]);first|done|rfl|(simp only [List.length_drop,List.length_take];rfl)) ?_;(with_reducible refine (a_q.calls kj23 _ _ l0_0 a0_1 true _ ?side1 ?side2 A103.out).mono ?_);(case side1 => repeat (first|exact (Kd.b_f c_V.out HB.out)|(with_reducible refine Kd.a_9 ?_ _)|(with_reducible refine Kd.a_8 ?_ _)|(with_reducible refine Kd.b_i ?_)));(case side2 => exact f_w.out);rintro e w237 ⟨rfl,hb⟩;refine ⟨_,rfl,?_⟩;replace a_X:=a_e.mk (Kd.a_2 (by (with_reducible repeat (first|apply Kd.a_R|apply Kd.a_S|apply Kd.a_Z));exact a_X.out) hb);replace b_b:=a_e.mk (Kd.a_2 (by (with_reducible repeat (first|apply Kd.a_R|apply Kd.a_S|apply Kd.a_Z));exact b_b.out) hb);replace b_a:=a_e.mk (Kd.a_3 (by (with_reducible repeat (first|apply Kd.a_Q|apply Kd.a_O|apply Kd.a_W));exact b_a.out) hb);replace b_c:=a_e.mk (Kd.a_2 (by (with_reducible repeat (first|apply Kd.a_R|apply Kd.a_S|apply Kd.a_Z));exact b_c.out) hb);replace a_0:=a_e.mk (a_l (bup_ a_0.out) hb);replace b_p:=a_e.mk (a_l (bup_ b_p.out) hb);replace b_d:=a_e.mk (a_l (bup_ b_d.out) hb);replace b_O:=a_e.mk (a_l (bup_ b_O.out) hb);replace b_U:=a_e.mk (a_l (bup_ b_U.out) hb);replace b_9:=a_e.mk (a_l (bup_ b_9.out) hb);replace HB:=a_e.mk (a_t (by repeat (first|(with_reducible first|exact HB.out|apply a_g|apply a_f|apply a_h|refine a_d ?_ b_W.out|refine a_d ?_ b_2.out|refine a_d ?_ c_k.out|refine a_d ?_ c_M.out|refine a_d ?_ c_3.out|refine a_d ?_ d_O.out)|exact HB.out)) hb);(try clear hb);(try clear hb2);(try clear hk);(try clear hi);have z_G : w237.cell? ⟨b_D,0,none⟩ = some (.slice A0_0 l0_0.length c0_0):=(a_a a_0.out 0).trans rfl;have z_H : w237.cell? ⟨b_D,1,none⟩ = some (.int .i64 a0_1):=(a_a a_0.out 1).trans rfl;have z_I:=a_b a_0.out 0;have z_J:=a_b a_0.out 1))
      go_ret
      exact ⟨by first|rfl|(simp [a_w,a_x] <;> rfl)|(simp [*, a_w,a_x] <;> rfl),by repeat (first|(with_reducible first|exact HB.out|apply a_g|apply a_f|apply a_h|refine a_d ?_ b_W.out|refine a_d ?_ b_2.out|refine a_d ?_ c_k.out|refine a_d ?_ c_M.out|refine a_d ?_ c_3.out|refine a_d ?_ d_O.out)|exact HB.out)⟩
     rw [if_pos c204] at H
     have c204b0 : (t266 == 0) = true:=beq_iff_eq.mpr c204
     have c204b1 : (t266 != 0) = false:=bne_eq_false_iff_eq.mpr c204
     clear c204
     replace H:=Option.bind_eq_some_iff.mp H
     obtain ⟨t278,A2050,H⟩:=H
     replace H : (some t278) = some r:=H
     have A205:=a_e.mk A2050
     clear A2050
     obtain rfl:=Option.some.inj H
     have N_Q:=d_K.out
     have N_R:=c_9.out
     have N_S:=d_L.out
     have N_T:=d_a.out
     have N_U:=c_0.out
     have N_W:=d_B.out
     have N_X:=d_c.out
     have N_Y:=d_N.out
     have N_Z:=c_m.out
     have N_0:=d_D.out
     have z_K : wc.cell? ⟨b_4,0,none⟩ = some (.slice Ao29 t251.length co29):=(a_a b_d.out 0).trans rfl
     have z_L : wc.cell? ⟨b_4,1,none⟩ = some (.int .i64 t254):=(a_a b_d.out 1).trans rfl
     have z_M:=a_b b_d.out 0
     have z_N:=a_b b_d.out 1
     go_wp2_with (first|((with_reducible refine a_P (f:=14) rfl ?_);refine b_v (some 61) rfl rfl Try.func14 (by kernel_rfl) rfl #[.agg #[.slice Ao29 t251.length co29,.int .i64 t254]] rfl (by (try simp only [List.map_toArray,List.map_cons,List.map_nil]);first|done|rfl|(simp only [List.length_drop,List.length_take];rfl)) ?_;(with_reducible refine (a_A.calls kj23 _ _ t251 t254 t276 _ ?side1 ?side2 A102.out).mono ?_);(case side1 => repeat (first|exact (Kd.b_A a_X.out).2.2|(with_reducible refine Kd.a_9 ?_ _)|(with_reducible refine Kd.a_8 ?_ _)|(with_reducible refine Kd.b_i ?_)));(case side2 => exact (Kd.b_A a_X.out).2.1);rintro e w212 ⟨rfl,hb⟩;refine ⟨_,rfl,?_⟩;replace a_X:=a_e.mk (Kd.a_2 (by (with_reducible repeat (first|apply Kd.a_R|apply Kd.a_S|apply Kd.a_Z));exact a_X.out) hb);replace b_b:=a_e.mk (Kd.a_2 (by (with_reducible repeat (first|apply Kd.a_R|apply Kd.a_S|apply Kd.a_Z));exact b_b.out) hb);replace b_a:=a_e.mk (Kd.a_3 (by (with_reducible repeat (first|apply Kd.a_Q|apply Kd.a_O|apply Kd.a_W));exact b_a.out) hb);replace b_c:=a_e.mk (Kd.a_2 (by (with_reducible repeat (first|apply Kd.a_R|apply Kd.a_S|apply Kd.a_Z));exact b_c.out) hb);replace a_0:=a_e.mk (a_l (bup_ a_0.out) hb);replace b_p:=a_e.mk (a_l (bup_ b_p.out) hb);replace b_d:=a_e.mk (a_l (bup_ b_d.out) hb);replace b_O:=a_e.mk (a_l (bup_ b_O.out) hb);replace b_U:=a_e.mk (a_l (bup_ b_U.out) hb);replace b_9:=a_e.mk (a_l (bup_ b_9.out) hb);replace HB:=a_e.mk (a_t (by repeat (first|(with_reducible first|exact HB.out|apply a_g|apply a_f|apply a_h|refine a_d ?_ b_W.out|refine a_d ?_ b_2.out|refine a_d ?_ c_k.out|refine a_d ?_ c_M.out|refine a_d ?_ c_3.out|refine a_d ?_ d_O.out)|exact HB.out)) hb);(try clear hb);(try clear hb2);(try clear hk);(try clear hi);have N_1:=c_X.out;have N_2:=c_Y.out;have N_3:=c_Z.out;have N_4:=d_A.out;have N_5:=d_b.out;have N_6:=d_M.out;have N_7:=c_l.out;have N_8:=d_C.out;have z_O : w212.cell? ⟨b_D,0,none⟩ = some (.slice A0_0 l0_0.length c0_0):=(a_a a_0.out 0).trans rfl;have z_P : w212.cell? ⟨b_D,1,none⟩ = some (.int .i64 a0_1):=(a_a a_0.out 1).trans rfl;have z_Q:=a_b a_0.out 0;have z_R:=a_b a_0.out 1)|((with_reducible refine a_P (f:=15) rfl ?_);refine b_v (some 64) rfl rfl Try.func15 (by kernel_rfl) rfl #[.agg #[.slice A0_0 l0_0.length c0_0,.int .i64 a0_1]] rfl (by (try simp only [List.map_toArray,List.map_cons,List.map_nil]);first|done|rfl|(simp only [List.length_drop,List.length_take];rfl)) ?_;(with_reducible refine (a_q.calls kj23 _ _ l0_0 a0_1 true _ ?side1 ?side2 A103.out).mono ?_);(case side1 => repeat (first|exact (Kd.b_f c_V.out HB.out)|(with_reducible refine Kd.a_9 ?_ _)|(with_reducible refine Kd.a_8 ?_ _)|(with_reducible refine Kd.b_i ?_)));(case side2 => exact f_w.out);rintro e w218 ⟨rfl,hb⟩;refine ⟨_,rfl,?_⟩;replace a_X:=a_e.mk (Kd.a_2 (by (with_reducible repeat (first|apply Kd.a_R|apply Kd.a_S|apply Kd.a_Z));exact a_X.out) hb);replace b_b:=a_e.mk (Kd.a_2 (by (with_reducible repeat (first|apply Kd.a_R|apply Kd.a_S|apply Kd.a_Z));exact b_b.out) hb);replace b_a:=a_e.mk (Kd.a_3 (by (with_reducible repeat (first|apply Kd.a_Q|apply Kd.a_O|apply Kd.a_W));exact b_a.out) hb);replace b_c:=a_e.mk (Kd.a_2 (by (with_reducible repeat (first|apply Kd.a_R|apply Kd.a_S|apply Kd.a_Z));exact b_c.out) hb);replace a_0:=a_e.mk (a_l (bup_ a_0.out) hb);replace b_p:=a_e.mk (a_l (bup_ b_p.out) hb);replace b_d:=a_e.mk (a_l (bup_ b_d.out) hb);replace b_O:=a_e.mk (a_l (bup_ b_O.out) hb);replace b_U:=a_e.mk (a_l (bup_ b_U.out) hb);replace b_9:=a_e.mk (a_l (bup_ b_9.out) hb);replace HB:=a_e.mk (a_t (by repeat (first|(with_reducible first|exact HB.out|apply a_g|apply a_f|apply a_h|refine a_d ?_ b_W.out|refine a_d ?_ b_2.out|refine a_d ?_ c_k.out|refine a_d ?_ c_M.out|refine a_d ?_ c_3.out|refine a_d ?_ d_O.out)|exact HB.out)) hb);(try clear hb);(try clear hb2);(try clear hk);(try clear hi);have z_S : w218.cell? ⟨b_D,0,none⟩ = some (.slice A0_0 l0_0.length c0_0):=(a_a a_0.out 0).trans rfl;have z_T : w218.cell? ⟨b_D,1,none⟩ = some (.int .i64 a0_1):=(a_a a_0.out 1).trans rfl;have z_U:=a_b a_0.out 0;have z_V:=a_b a_0.out 1;have N_9:=g_T.out;have O_a:=f_R.out;have O_b:=f_S.out;have O_c:=e_5.out;have O_d:=d_Z.out;have O_e:=f_T.out;have z_W : w218.cell? ⟨c_1,0,none⟩ = some (.slice Ao47 t262.length co47):=(a_a b_U.out 0).trans rfl;have z_X : w218.cell? ⟨c_1,1,none⟩ = some (.int .i64 t265):=(a_a b_U.out 1).trans rfl;have z_Y:=a_b b_U.out 0;have z_Z:=a_b b_U.out 1)|(go_at_call 13;(with_reducible refine (a_z.calls kj23 _ _ t262 t265 _ _ l0_0 a2 t278 _ ?side1 ?side2 ?side3 ?side4 A205.out).mono ?_);(case side1 => repeat (first|exact (Kd.b_n b_a.out).2.2|(with_reducible refine Kd.a_9 ?_ _)|(with_reducible refine Kd.a_8 ?_ _)|(with_reducible refine Kd.b_i ?_)));(case side2 => exact (Kd.b_n b_a.out).2.1);(case side3 => repeat (first|exact (Kd.b_f c_V.out HB.out)|(with_reducible refine Kd.a_9 ?_ _)|(with_reducible refine Kd.a_8 ?_ _)|(with_reducible refine Kd.b_i ?_)));(case side4 => exact f_w.out);rintro e w224 ⟨rfl,hb⟩;replace a_X:=a_e.mk (Kd.a_2 (by (with_reducible repeat (first|apply Kd.a_R|apply Kd.a_S|apply Kd.a_Z));exact a_X.out) hb);replace b_b:=a_e.mk (Kd.a_2 (by (with_reducible repeat (first|apply Kd.a_R|apply Kd.a_S|apply Kd.a_Z));exact b_b.out) hb);replace b_a:=a_e.mk (Kd.a_3 (by (with_reducible repeat (first|apply Kd.a_Q|apply Kd.a_O|apply Kd.a_W));exact b_a.out) hb);replace b_c:=a_e.mk (Kd.a_2 (by (with_reducible repeat (first|apply Kd.a_R|apply Kd.a_S|apply Kd.a_Z));exact b_c.out) hb);replace a_0:=a_e.mk (a_l (bup_ a_0.out) hb);replace b_p:=a_e.mk (a_l (bup_ b_p.out) hb);replace b_d:=a_e.mk (a_l (bup_ b_d.out) hb);replace b_O:=a_e.mk (a_l (bup_ b_O.out) hb);replace b_U:=a_e.mk (a_l (bup_ b_U.out) hb);replace b_9:=a_e.mk (a_l (bup_ b_9.out) hb);replace HB:=a_e.mk (a_t (by repeat (first|(with_reducible first|exact HB.out|apply a_g|apply a_f|apply a_h|refine a_d ?_ b_W.out|refine a_d ?_ b_2.out|refine a_d ?_ c_k.out|refine a_d ?_ c_M.out|refine a_d ?_ c_3.out|refine a_d ?_ d_O.out)|exact HB.out)) hb);(try clear hb);(try clear hb2);(try clear hk);(try clear hi)))
     go_ret
     exact ⟨by first|rfl|(simp [a_w,a_x] <;> rfl)|(simp [*, a_w,a_x] <;> rfl),by repeat (first|(with_reducible first|exact HB.out|apply a_g|apply a_f|apply a_h|refine a_d ?_ b_W.out|refine a_d ?_ b_2.out|refine a_d ?_ c_k.out|refine a_d ?_ c_M.out|refine a_d ?_ c_3.out|refine a_d ?_ d_O.out)|exact HB.out)⟩
end Go.Proofs.Ytgglkfilkagblaa.Q
end
