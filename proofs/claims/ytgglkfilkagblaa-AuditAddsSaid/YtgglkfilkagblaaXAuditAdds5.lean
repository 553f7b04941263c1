/- Part 6 of 14 of what the row of AuditAdds stands on: contracts over the given program's functions, the plain law, the row; no condition beyond those that each theorem states. -/
import Derived.Test.YtgglkfilkagblaaXAuditAdds4
section
namespace Go.Proofs.Ytgglkfilkagblaa.Q
open Go.RowKit Go.Proofs.YtgglkfilkagblaaW.PrintWords Go.Proofs.YtgglkfilkagblaaW.PrintLast Go.Proofs.YtgglkfilkagblaaW.PrintMore
set_option linter.unusedVariables false
set_option linter.unusedSimpArgs false
theorem own_ne {A : Option Addr} {n m c c' k : Nat} (h : some k ≠ (Value.slice A n c).ownBlock) : some k ≠ (Value.slice A m c').ownBlock:=by cases A <;> exact h
def a_Y.j0 : Nat → List (S27) → Int → Bool → Int → List (S65) → Option ((List (S27)) × Int × Int)
 | 0,_,_,_,_,_ => none
 | k + 1,x6,x7,x42,x134000,x134001 => if x42 = true then (if 0 ≤ (wrap64 (x7 - 1)) then (if (wrap64 (x7 - 1)) ≤ (x6.length : Int) then ((some (x6.take ((wrap64 (x7 - 1)) : Int).toNat : List (S27))).bind fun y141 => (if (y141.length : Int) = 2000 then (some (([] : List (S27)),0,6)) else (if y141.length < 4398046511104 then (some ((y141 ++ [(⟨x134000,x134001⟩ : S27)]),x134000,0)) else (none)))) else (none)) else (none)) else (if (x6.length : Int) = 2000 then (some (([] : List (S27)),0,6)) else (if x6.length < 4398046511104 then (some ((x6 ++ [(⟨x134000,x134001⟩ : S27)]),x134000,0)) else (none)))
def a_Y.f (k : Nat) (l0_0 : List (S27)) (a0_1 : Int) (a1_0 : Int) (l1_1 : List (S65)) : Option ((List (S27)) × Int × Int):=(a_A.f k l0_0 a0_1).bind fun t135 => (if t135 = 0 then ((a_G.f k a1_0 l1_1).bind fun t136 => (if t136 = true then (if a1_0 < a0_1 then (some (([] : List (S27)),0,2)) else ((d_R.f l0_0).bind fun t137 => (if (t137.length : Int) > 0 then (if 0 ≤ (wrap64 ((t137.length : Int) - 1)) then (if (wrap64 ((t137.length : Int) - 1)) < (t137.length : Int) then (a_Y.j0 k t137 (t137.length : Int) (((a_o t137 (wrap64 ((t137.length : Int) - 1))).f0) == a1_0) a1_0 l1_1) else (none)) else (none)) else (a_Y.j0 k t137 (t137.length : Int) false a1_0 l1_1)))) else (some (([] : List (S27)),0,2)))) else (some (([] : List (S27)),0,390)))
theorem a_Y.c_N : ∀ k,(∀ y0 y1 y2 y3 y4,LeO (a_Y.j0 k y0 y1 y2 y3 y4) (a_Y.j0 (k + 1) y0 y1 y2 y3 y4))
 | 0 => fun _ _ _ _ _ r h => by simp [a_Y.j0] at h
 | k + 1 => by
  have ih0:=a_Y.c_N k
  ·intro y0 y1 y2 y3 y4
   unfold a_Y.j0
   repeat' first
   | (with_reducible exact ih0 _ _ _ _ _)
   | (with_reducible exact a_A.mono _ _ _)
   | (with_reducible exact a_G.mono _ _ _)
   | (with_reducible exact LeO.refl _)
   | (with_reducible exact LeO.none _)
   | (with_reducible refine LeO.ite ?_ ?_)
   | (with_reducible refine LeO.bind ?_ (fun _ => ?_))
   | exact ih0 _ _ _ _ _
   | exact a_A.mono _ _ _
   | exact a_G.mono _ _ _
   | exact LeO.none _
   | refine LeO.ite ?_ ?_
   | refine LeO.bind ?_ (fun _ => ?_)
theorem a_Y.mono : ∀ a0 a1 a2 a3 k,LeO (a_Y.f k a0 a1 a2 a3) (a_Y.f (k + 1) a0 a1 a2 a3):=by
 intro a0 a1 a2 a3 k
 have ih0:=a_Y.c_N k
 unfold a_Y.f
 repeat' first
  | (with_reducible exact ih0 _ _ _ _ _)
  | (with_reducible exact a_A.mono _ _ _)
  | (with_reducible exact a_G.mono _ _ _)
  | (with_reducible exact LeO.refl _)
  | (with_reducible exact LeO.none _)
  | (with_reducible refine LeO.ite ?_ ?_)
  | (with_reducible refine LeO.bind ?_ (fun _ => ?_))
  | exact ih0 _ _ _ _ _
  | exact a_A.mono _ _ _
  | exact a_G.mono _ _ _
  | exact LeO.none _
  | refine LeO.ite ?_ ?_
  | refine LeO.bind ?_ (fun _ => ?_)
def a_Y.T7 : Bool × List (List Nat × List Nat):=(true,[([],[]),([0],[0]),([1],[1]),([2],[2]),([2],[2]),([4,2],[2,4]),([3,5,2],[2,3,5]),([6,2],[2,6]),([7,2],[2,7]),([2],[2]),([9,2],[2,9]),([8,10,2],[2,8,10]),([2,11],[2,11])])
def a_Y.B7 : List Nat:=[0,1,3,7,7,23,63,127,255,7,519,2047,4095]
theorem a_Y.tab7 : rtab .any (opsOf Try.f10 7) = a_Y.T7:=by kernel_rfl
theorem a_Y.n_V : f_e a_Y.T7.2 a_Y.B7 = true:=by kernel_rfl
def a_Y.T11 : Bool × List (List Nat × List Nat):=(true,[([],[]),([],[]),([1],[1]),([0,2],[0,2]),([],[]),([4],[4]),([3,5],[3,5]),([6,3,0,1,2,3,4,5,6],[6]),([7,0,1,2,3,4,5,6,7],[])])
def a_Y.B11 : List Nat:=[0,0,2,7,0,16,63,127,255]
theorem a_Y.v_E : rtab .any (opsOf Try.f10 11) = a_Y.T11:=by kernel_rfl
theorem a_Y.r_L : f_e a_Y.T11.2 a_Y.B11 = true:=by kernel_rfl
set_option maxHeartbeats 8000000 in
set_option maxRecDepth 100000 in
theorem a_Y.calls (k : Nat) (P0_0_ : Nat → Prop) (A0_0 : Option Addr) (c0_0 : Nat) (l0_0 : List (S27)) (a0_1 : Int) (a1_0 : Int) (P1_1_ : Nat → Prop) (A1_1 : Option Addr) (c1_1 : Nat) (l1_1 : List (S65)) (r1 : List (S27)) (r2 : Int) (r3 : Int) (w : World) (hs0_0 : Kd.V k27 27 w w.heap.size (fun k_ => P0_0_ k_) (.slice A0_0 l0_0.length c0_0) l0_0) (hs1_1 : Kd.V k65 65 w w.heap.size (fun k_ => P1_1_ k_) (.slice A1_1 l1_1.length c1_1) l1_1) (h : a_Y.f k l0_0 a0_1 a1_0 l1_1 = some (r1,r2,r3)) :
 Calls Try.prog 10 #[.agg #[.slice A0_0 l0_0.length c0_0,.int .i64 a0_1],.agg #[.int .i64 a1_0,.slice A1_1 l1_1.length c1_1]] w fun e w' => ∃ v0_ : Value,e = .returned (.tuple #[.agg #[v0_,.int .i64 r2],.int .i64 r3]) ∧ Kd.N k27 27 w' w.heap.size (fun k_ => ((P0_0_ k_ ∨ P1_1_ k_) ∨ w.heap.size ≤ k_)) v0_ r1 ∧ Below w.heap.size w w':=by
 have hu24:=Try.underlying24
 have hu27:=Try.underlying27
 have b_o:=a_e.mk (show Kd.V k27 27 w w.heap.size (fun k_ => ((P0_0_ k_ ∨ P1_1_ k_) ∨ w.heap.size ≤ k_)) (.slice A0_0 l0_0.length c0_0) l0_0 from Kd.b_X hs0_0 (fun k_ hk => .inl (.inl hk)))
 have b_Z:=a_e.mk (show Kd.V k65 65 w w.heap.size (fun k_ => ((P0_0_ k_ ∨ P1_1_ k_) ∨ w.heap.size ≤ k_)) (.slice A1_1 l1_1.length c1_1) l1_1 from Kd.b_X hs1_1 (fun k_ hk => .inl (.inr hk)))
 have HB:=a_e.mk (Below.refl w.heap.size w)
 have H : ((a_A.f k l0_0 a0_1).bind fun t135 => (if t135 = 0 then ((a_G.f k a1_0 l1_1).bind fun t136 => (if t136 = true then (if a1_0 < a0_1 then (some (([] : List (S27)),0,2)) else ((d_R.f l0_0).bind fun t137 => (if (t137.length : Int) > 0 then (if 0 ≤ (wrap64 ((t137.length : Int) - 1)) then (if (wrap64 ((t137.length : Int) - 1)) < (t137.length : Int) then (a_Y.j0 k t137 (t137.length : Int) (((a_o t137 (wrap64 ((t137.length : Int) - 1))).f0) == a1_0) a1_0 l1_1) else (none)) else (none)) else (a_Y.j0 k t137 (t137.length : Int) false a1_0 l1_1)))) else (some (([] : List (S27)),0,2)))) else (some (([] : List (S27)),0,390)))) = some (r1,r2,r3):=h
 clear h
 replace H:=Option.bind_eq_some_iff.mp H
 obtain ⟨t135,A30,H⟩:=H
 replace H : (if t135 = 0 then ((a_G.f k a1_0 l1_1).bind fun t136 => (if t136 = true then (if a1_0 < a0_1 then (some (([] : List (S27)),0,2)) else ((d_R.f l0_0).bind fun t137 => (if (t137.length : Int) > 0 then (if 0 ≤ (wrap64 ((t137.length : Int) - 1)) then (if (wrap64 ((t137.length : Int) - 1)) < (t137.length : Int) then (a_Y.j0 k t137 (t137.length : Int) (((a_o t137 (wrap64 ((t137.length : Int) - 1))).f0) == a1_0) a1_0 l1_1) else (none)) else (none)) else (a_Y.j0 k t137 (t137.length : Int) false a1_0 l1_1)))) else (some (([] : List (S27)),0,2)))) else (some (([] : List (S27)),0,390))) = some (r1,r2,r3):=H
 have A3:=a_e.mk A30
 clear A30
 by_cases c4 : t135 = 0
 rotate_left
 ·rw [if_neg c4] at H
  have c4b0 : (t135 == 0) = false:=beq_eq_false_iff_ne.mpr c4
  have c4b1 : (t135 != 0) = true:=bne_iff_ne.mpr c4
  simp only [Option.some.injEq,Prod.mk.injEq] at H
  obtain ⟨rfl,rfl,rfl⟩:=H
  go_enter Try.func10,Try.ntmps10
  go_wp2_with (first|((with_reducible refine a_U (N:=2) rfl ?_);refine a_H ?hg (N:=2) ?hd (cs:=#[.slice A0_0 l0_0.length c0_0,.int .i64 a0_1]) (t:=24) ?hr ?_;(case hd => rfl);(case hg => rfl);(case hr => first|(go_simp;done)|(go_simp;rfl));intro c_c hg w80 hbox hb;have b_E:=a_e.mk (hbox);have t_l:=a_e.mk ((by rw [hg];exact (a_p (lup_ HB.out)) : w.heap.size ≤ c_c));have c_2:=a_e.mk ((by rw [hg];exact (a_p (lup_ HB.out)) : w.heap.size ≤ c_c));replace b_o:=a_e.mk (Kd.a_3 (Kd.b_q (by (with_reducible repeat (first|apply Kd.a_Q|apply Kd.a_O|apply Kd.a_W));exact b_o.out) c_c (Nat.le_of_eq hg.symm)) hb);replace b_Z:=a_e.mk (Kd.a_3 (Kd.b_q (by (with_reducible repeat (first|apply Kd.a_Q|apply Kd.a_O|apply Kd.a_W));exact b_Z.out) c_c (Nat.le_of_eq hg.symm)) hb);replace HB:=a_e.mk (a_t (lup_ HB.out) hb);clear hb hbox hg)|((with_reducible refine a_U (N:=3) rfl ?_);refine a_H ?hg (N:=3) ?hd (cs:=#[.int .i64 a1_0,.slice A1_1 l1_1.length c1_1]) (t:=27) ?hr ?_;(case hd => rfl);(case hg => rfl);(case hr => first|(go_simp;done)|(go_simp;rfl));intro b_8 hg w81 hbox hb;have b_M:=a_e.mk (hbox);have t_m:=a_e.mk ((by rw [hg];exact (a_p (by repeat (first|(with_reducible first|exact HB.out|apply a_g|apply a_f|apply a_h|refine a_d ?_ c_2.out)|exact HB.out))) : w.heap.size ≤ b_8));have d_0:=a_e.mk ((by rw [hg];exact (a_p (by repeat (first|(with_reducible first|exact HB.out|apply a_g|apply a_f|apply a_h|refine a_d ?_ c_2.out)|exact HB.out))) : w.heap.size ≤ b_8));have f_G:=a_e.mk ((by rw [hg];exact Nat.ne_of_lt (a_N (bup_ b_E.out)) : c_c ≠ b_8));have f_H:=a_e.mk ((by rw [hg];exact Nat.ne_of_gt (a_N (bup_ b_E.out)) : b_8 ≠ c_c));replace b_o:=a_e.mk (Kd.a_3 (Kd.b_q (by (with_reducible repeat (first|apply Kd.a_Q|apply Kd.a_O|apply Kd.a_W));exact b_o.out) b_8 (Nat.le_of_eq hg.symm)) hb);replace b_Z:=a_e.mk (Kd.a_3 (Kd.b_q (by (with_reducible repeat (first|apply Kd.a_Q|apply Kd.a_O|apply Kd.a_W));exact b_Z.out) b_8 (Nat.le_of_eq hg.symm)) hb);replace b_E:=a_e.mk (a_l (bup_ b_E.out) hb);replace HB:=a_e.mk (a_t (by repeat (first|(with_reducible first|exact HB.out|apply a_g|apply a_f|apply a_h|refine a_d ?_ c_2.out)|exact HB.out)) hb);clear hb hbox hg)|((with_reducible refine a_U (N:=4) rfl ?_);refine a_H ?hg (N:=4) ?hd (cs:=#[.slice none 0 0,.int .i64 0]) (t:=24) ?hr ?_;(case hd => rfl);(case hg => rfl);(case hr => first|(go_simp;done)|(go_simp;rfl));intro b_K hg w82 hbox hb;have b_3:=a_e.mk (hbox);have t_n:=a_e.mk ((by rw [hg];exact (a_p (by repeat (first|(with_reducible first|exact HB.out|apply a_g|apply a_f|apply a_h|refine a_d ?_ c_2.out|refine a_d ?_ d_0.out)|exact HB.out))) : w.heap.size ≤ b_K));have e_8:=a_e.mk ((by rw [hg];exact (a_p (by repeat (first|(with_reducible first|exact HB.out|apply a_g|apply a_f|apply a_h|refine a_d ?_ c_2.out|refine a_d ?_ d_0.out)|exact HB.out))) : w.heap.size ≤ b_K));have d_V:=a_e.mk ((by rw [hg];exact Nat.ne_of_lt (a_N (bup_ b_E.out)) : c_c ≠ b_K));have d_W:=a_e.mk ((by rw [hg];exact Nat.ne_of_gt (a_N (bup_ b_E.out)) : b_K ≠ c_c));have c_h:=a_e.mk ((by rw [hg];exact Nat.ne_of_lt (a_N (bup_ b_M.out)) : b_8 ≠ b_K));have d_X:=a_e.mk ((by rw [hg];exact Nat.ne_of_gt (a_N (bup_ b_M.out)) : b_K ≠ b_8));replace b_o:=a_e.mk (Kd.a_3 (Kd.b_q (by (with_reducible repeat (first|apply Kd.a_Q|apply Kd.a_O|apply Kd.a_W));exact b_o.out) b_K (Nat.le_of_eq hg.symm)) hb);replace b_Z:=a_e.mk (Kd.a_3 (Kd.b_q (by (with_reducible repeat (first|apply Kd.a_Q|apply Kd.a_O|apply Kd.a_W));exact b_Z.out) b_K (Nat.le_of_eq hg.symm)) hb);replace b_E:=a_e.mk (a_l (bup_ b_E.out) hb);replace b_M:=a_e.mk (a_l (bup_ b_M.out) hb);replace HB:=a_e.mk (a_t (by repeat (first|(with_reducible first|exact HB.out|apply a_g|apply a_f|apply a_h|refine a_d ?_ c_2.out|refine a_d ?_ d_0.out)|exact HB.out)) hb);clear hb hbox hg;have B_a:=f_G.out;have B_b:=f_H.out;have O_k:=d_V.out;have O_l:=d_W.out;have B_c : w82.cell? ⟨c_c,0,none⟩ = some (.slice A0_0 l0_0.length c0_0):=(a_a b_E.out 0).trans rfl;have B_d : w82.cell? ⟨c_c,1,none⟩ = some (.int .i64 a0_1):=(a_a b_E.out 1).trans rfl;have B_e:=a_b b_E.out 0;have B_f:=a_b b_E.out 1)|((with_reducible refine a_P (f:=14) rfl ?_);refine b_v (some 10) rfl rfl Try.func14 (by kernel_rfl) rfl #[.agg #[.slice A0_0 l0_0.length c0_0,.int .i64 a0_1]] rfl (by (try simp only [List.map_toArray,List.map_cons,List.map_nil]);first|done|rfl|(simp only [List.length_drop,List.length_take];rfl)) ?_;(with_reducible refine (a_A.calls k _ _ l0_0 a0_1 t135 _ ?side1 ?side2 A3.out).mono ?_);(case side1 => repeat (first|exact (Kd.b_n b_o.out).2.2|(with_reducible refine Kd.a_9 ?_ _)|(with_reducible refine Kd.a_8 ?_ _)|(with_reducible refine Kd.b_i ?_)));(case side2 => exact (Kd.b_n b_o.out).2.1);rintro e w86 ⟨rfl,hb⟩;refine ⟨_,rfl,?_⟩;replace b_o:=a_e.mk (Kd.a_3 (by (with_reducible repeat (first|apply Kd.a_Q|apply Kd.a_O|apply Kd.a_W));exact b_o.out) hb);replace b_Z:=a_e.mk (Kd.a_3 (by (with_reducible repeat (first|apply Kd.a_Q|apply Kd.a_O|apply Kd.a_W));exact b_Z.out) hb);replace b_E:=a_e.mk (a_l (bup_ b_E.out) hb);replace b_M:=a_e.mk (a_l (bup_ b_M.out) hb);replace b_3:=a_e.mk (a_l (bup_ b_3.out) hb);replace HB:=a_e.mk (a_t (by repeat (first|(with_reducible first|exact HB.out|apply a_g|apply a_f|apply a_h|refine a_d ?_ c_2.out|refine a_d ?_ d_0.out|refine a_d ?_ e_8.out)|exact HB.out)) hb);(try clear hb);(try clear hb2);(try clear hk);(try clear hi);have O_m:=d_X.out;have O_n:=c_h.out;have B_g : w86.cell? ⟨b_K,0,none⟩ = some (.slice none 0 0):=(a_a b_3.out 0).trans rfl;have B_h : w86.cell? ⟨b_K,1,none⟩ = some (.int .i64 0):=(a_a b_3.out 1).trans rfl;have B_i:=a_b b_3.out 0;have B_j:=a_b b_3.out 1))
  refine bodyPost_ret (c_o rfl _ _ b_K 24 #[.slice none 0 0,.int .i64 0] (0,0) _ rfl (by (with_reducible repeat (first|refine a_j ?_ _|refine a_k ?_|refine a_i ?_ _));refine a_J (cs:=#[.slice none 0 0,.int .i64 0]) ?_ 1 _ rfl;(with_reducible repeat (first|refine a_j ?_ _|refine a_k ?_|refine a_i ?_ _));refine a_J (cs:=#[.slice none 0 0,.int .i64 0]) ?_ 0 _ rfl;(with_reducible repeat (first|refine a_j ?_ _|refine a_k ?_|refine a_i ?_ _));exact b_3.out) Try.underlying24 rfl (by kernel_rfl)) rfl ?_
  exact ⟨_,by first|rfl|(simp [a_w,a_x] <;> rfl)|(simp [*, a_w,a_x] <;> rfl),by first|exact Kd.k_l _ _ _ _ _|exact Kd.i_U _ _ _ _ _|exact Kd.h_O _ _ _ _ _|exact Kd.k_e _ _ _ _ _|exact Kd.i_b _ _ _ _ _,by repeat (first|(with_reducible first|exact HB.out|apply a_g|apply a_f|apply a_h|refine a_d ?_ c_2.out|refine a_d ?_ d_0.out|refine a_d ?_ e_8.out)|exact HB.out)⟩
 rw [if_pos c4] at H
 have c4b0 : (t135 == 0) = true:=beq_iff_eq.mpr c4
 have c4b1 : (t135 != 0) = false:=bne_eq_false_iff_eq.mpr c4
 clear c4
 replace H:=Option.bind_eq_some_iff.mp H
 obtain ⟨t136,A50,H⟩:=H
 replace H : (if t136 = true then (if a1_0 < a0_1 then (some (([] : List (S27)),0,2)) else ((d_R.f l0_0).bind fun t137 => (if (t137.length : Int) > 0 then (if 0 ≤ (wrap64 ((t137.length : Int) - 1)) then (if (wrap64 ((t137.length : Int) - 1)) < (t137.length : Int) then (a_Y.j0 k t137 (t137.length : Int) (((a_o t137 (wrap64 ((t137.length : Int) - 1))).f0) == a1_0) a1_0 l1_1) else (none)) else (none)) else (a_Y.j0 k t137 (t137.length : Int) false a1_0 l1_1)))) else (some (([] : List (S27)),0,2))) = some (r1,r2,r3):=H
 have A5:=a_e.mk A50
 clear A50
 by_cases c6 : t136 = true
 rotate_left
 ·replace c6:=Bool.eq_false_iff.mpr c6
  subst c6
  have H1 : (some (([] : List (S27)),0,2)) = some (r1,r2,r3):=by rw [if_neg (show ¬ (false = true) by decide)] at H;exact H
  clear H
  have H:=H1
  clear H1
  simp only [Option.some.injEq,Prod.mk.injEq] at H
  obtain ⟨rfl,rfl,rfl⟩:=H
  go_enter Try.func10,Try.ntmps10
  go_wp2_with (first|((with_reducible refine a_U (N:=2) rfl ?_);refine a_H ?hg (N:=2) ?hd (cs:=#[.slice A0_0 l0_0.length c0_0,.int .i64 a0_1]) (t:=24) ?hr ?_;(case hd => rfl);(case hg => rfl);(case hr => first|(go_simp;done)|(go_simp;rfl));intro c_c hg w69 hbox hb;have b_E:=a_e.mk (hbox);have t_l:=a_e.mk ((by rw [hg];exact (a_p (lup_ HB.out)) : w.heap.size ≤ c_c));have c_2:=a_e.mk ((by rw [hg];exact (a_p (lup_ HB.out)) : w.heap.size ≤ c_c));replace b_o:=a_e.mk (Kd.a_3 (Kd.b_q (by (with_reducible repeat (first|apply Kd.a_Q|apply Kd.a_O|apply Kd.a_W));exact b_o.out) c_c (Nat.le_of_eq hg.symm)) hb);replace b_Z:=a_e.mk (Kd.a_3 (Kd.b_q (by (with_reducible repeat (first|apply Kd.a_Q|apply Kd.a_O|apply Kd.a_W));exact b_Z.out) c_c (Nat.le_of_eq hg.symm)) hb);replace HB:=a_e.mk (a_t (lup_ HB.out) hb);clear hb hbox hg)|((with_reducible refine a_U (N:=3) rfl ?_);refine a_H ?hg (N:=3) ?hd (cs:=#[.int .i64 a1_0,.slice A1_1 l1_1.length c1_1]) (t:=27) ?hr ?_;(case hd => rfl);(case hg => rfl);(case hr => first|(go_simp;done)|(go_simp;rfl));intro b_8 hg w70 hbox hb;have b_M:=a_e.mk (hbox);have t_m:=a_e.mk ((by rw [hg];exact (a_p (by repeat (first|(with_reducible first|exact HB.out|apply a_g|apply a_f|apply a_h|refine a_d ?_ c_2.out)|exact HB.out))) : w.heap.size ≤ b_8));have d_0:=a_e.mk ((by rw [hg];exact (a_p (by repeat (first|(with_reducible first|exact HB.out|apply a_g|apply a_f|apply a_h|refine a_d ?_ c_2.out)|exact HB.out))) : w.heap.size ≤ b_8));have f_G:=a_e.mk ((by rw [hg];exact Nat.ne_of_lt (a_N (bup_ b_E.out)) : c_c ≠ b_8));have f_H:=a_e.mk ((by rw [hg];exact Nat.ne_of_gt (a_N (bup_ b_E.out)) : b_8 ≠ c_c));replace b_o:=a_e.mk (Kd.a_3 (Kd.b_q (by (with_reducible repeat (first|apply Kd.a_Q|apply Kd.a_O|apply Kd.a_W));exact b_o.out) b_8 (Nat.le_of_eq hg.symm)) hb);replace b_Z:=a_e.mk (Kd.a_3 (Kd.b_q (by (with_reducible repeat (first|apply Kd.a_Q|apply Kd.a_O|apply Kd.a_W));exact b_Z.out) b_8 (Nat.le_of_eq hg.symm)) hb);replace b_E:=a_e.mk (a_l (bup_ b_E.out) hb);replace HB:=a_e.mk (a_t (by repeat (first|(with_reducible first|exact HB.out|apply a_g|apply a_f|apply a_h|refine a_d ?_ c_2.out)|exact HB.out)) hb);clear hb hbox hg)|((with_reducible refine a_U (N:=4) rfl ?_);refine a_H ?hg (N:=4) ?hd (cs:=#[.slice none 0 0,.int .i64 0]) (t:=24) ?hr ?_;(case hd => rfl);(case hg => rfl);(case hr => first|(go_simp;done)|(go_simp;rfl));intro b_K hg w71 hbox hb;have b_3:=a_e.mk (hbox);have t_n:=a_e.mk ((by rw [hg];exact (a_p (by repeat (first|(with_reducible first|exact HB.out|apply a_g|apply a_f|apply a_h|refine a_d ?_ c_2.out|refine a_d ?_ d_0.out)|exact HB.out))) : w.heap.size ≤ b_K));have e_8:=a_e.mk ((by rw [hg];exact (a_p (by repeat (first|(with_reducible first|exact HB.out|apply a_g|apply a_f|apply a_h|refine a_d ?_ c_2.out|refine a_d ?_ d_0.out)|exact HB.out))) : w.heap.size ≤ b_K));have d_V:=a_e.mk ((by rw [hg];exact Nat.ne_of_lt (a_N (bup_ b_E.out)) : c_c ≠ b_K));have d_W:=a_e.mk ((by rw [hg];exact Nat.ne_of_gt (a_N (bup_ b_E.out)) : b_K ≠ c_c));have c_h:=a_e.mk ((by rw [hg];exact Nat.ne_of_lt (a_N (bup_ b_M.out)) : b_8 ≠ b_K));have d_X:=a_e.mk ((by rw [hg];exact Nat.ne_of_gt (a_N (bup_ b_M.out)) : b_K ≠ b_8));replace b_o:=a_e.mk (Kd.a_3 (Kd.b_q (by (with_reducible repeat (first|apply Kd.a_Q|apply Kd.a_O|apply Kd.a_W));exact b_o.out) b_K (Nat.le_of_eq hg.symm)) hb);replace b_Z:=a_e.mk (Kd.a_3 (Kd.b_q (by (with_reducible repeat (first|apply Kd.a_Q|apply Kd.a_O|apply Kd.a_W));exact b_Z.out) b_K (Nat.le_of_eq hg.symm)) hb);replace b_E:=a_e.mk (a_l (bup_ b_E.out) hb);replace b_M:=a_e.mk (a_l (bup_ b_M.out) hb);replace HB:=a_e.mk (a_t (by repeat (first|(with_reducible first|exact HB.out|apply a_g|apply a_f|apply a_h|refine a_d ?_ c_2.out|refine a_d ?_ d_0.out)|exact HB.out)) hb);clear hb hbox hg;have B_k:=f_G.out;have B_l:=f_H.out;have w_q:=d_V.out;have w_r:=d_W.out;have m_C : w71.cell? ⟨c_c,0,none⟩ = some (.slice A0_0 l0_0.length c0_0):=(a_a b_E.out 0).trans rfl;have m_D : w71.cell? ⟨c_c,1,none⟩ = some (.int .i64 a0_1):=(a_a b_E.out 1).trans rfl;have m_E:=a_b b_E.out 0;have m_F:=a_b b_E.out 1)|((with_reducible refine a_P (f:=14) rfl ?_);refine b_v (some 10) rfl rfl Try.func14 (by kernel_rfl) rfl #[.agg #[.slice A0_0 l0_0.length c0_0,.int .i64 a0_1]] rfl (by (try simp only [List.map_toArray,List.map_cons,List.map_nil]);first|done|rfl|(simp only [List.length_drop,List.length_take];rfl)) ?_;(with_reducible refine (a_A.calls k _ _ l0_0 a0_1 t135 _ ?side1 ?side2 A3.out).mono ?_);(case side1 => repeat (first|exact (Kd.b_n b_o.out).2.2|(with_reducible refine Kd.a_9 ?_ _)|(with_reducible refine Kd.a_8 ?_ _)|(with_reducible refine Kd.b_i ?_)));(case side2 => exact (Kd.b_n b_o.out).2.1);rintro e w75 ⟨rfl,hb⟩;refine ⟨_,rfl,?_⟩;replace b_o:=a_e.mk (Kd.a_3 (by (with_reducible repeat (first|apply Kd.a_Q|apply Kd.a_O|apply Kd.a_W));exact b_o.out) hb);replace b_Z:=a_e.mk (Kd.a_3 (by (with_reducible repeat (first|apply Kd.a_Q|apply Kd.a_O|apply Kd.a_W));exact b_Z.out) hb);replace b_E:=a_e.mk (a_l (bup_ b_E.out) hb);replace b_M:=a_e.mk (a_l (bup_ b_M.out) hb);replace b_3:=a_e.mk (a_l (bup_ b_3.out) hb);replace HB:=a_e.mk (a_t (by repeat (first|(with_reducible first|exact HB.out|apply a_g|apply a_f|apply a_h|refine a_d ?_ c_2.out|refine a_d ?_ d_0.out|refine a_d ?_ e_8.out)|exact HB.out)) hb);(try clear hb);(try clear hb2);(try clear hk);(try clear hi);have w_s:=c_h.out;have w_t:=d_X.out;have t_o : w75.cell? ⟨b_8,0,none⟩ = some (.int .i64 a1_0):=(a_a b_M.out 0).trans rfl;have t_p : w75.cell? ⟨b_8,1,none⟩ = some (.slice A1_1 l1_1.length c1_1):=(a_a b_M.out 1).trans rfl;have t_q:=a_b b_M.out 0;have t_r:=a_b b_M.out 1)|((with_reducible refine a_P (f:=24) rfl ?_);refine b_v (some 15) rfl rfl Try.func24 (by kernel_rfl) rfl #[.agg #[.int .i64 a1_0,.slice A1_1 l1_1.length c1_1]] rfl (by (try simp only [List.map_toArray,List.map_cons,List.map_nil]);first|done|rfl|(simp only [List.length_drop,List.length_take];rfl)) ?_;(with_reducible refine (a_G.calls k a1_0 _ _ l1_1 false _ ?side1 ?side2 A5.out).mono ?_);(case side1 => repeat (first|exact (Kd.b_n b_Z.out).2.2|(with_reducible refine Kd.a_9 ?_ _)|(with_reducible refine Kd.a_8 ?_ _)|(with_reducible refine Kd.b_i ?_)));(case side2 => exact (Kd.b_n b_Z.out).2.1);rintro e w78 ⟨rfl,hb⟩;refine ⟨_,rfl,?_⟩;replace b_o:=a_e.mk (Kd.a_3 (by (with_reducible repeat (first|apply Kd.a_Q|apply Kd.a_O|apply Kd.a_W));exact b_o.out) hb);replace b_Z:=a_e.mk (Kd.a_3 (by (with_reducible repeat (first|apply Kd.a_Q|apply Kd.a_O|apply Kd.a_W));exact b_Z.out) hb);replace b_E:=a_e.mk (a_l (bup_ b_E.out) hb);replace b_M:=a_e.mk (a_l (bup_ b_M.out) hb);replace b_3:=a_e.mk (a_l (bup_ b_3.out) hb);replace HB:=a_e.mk (a_t (by repeat (first|(with_reducible first|exact HB.out|apply a_g|apply a_f|apply a_h|refine a_d ?_ c_2.out|refine a_d ?_ d_0.out|refine a_d ?_ e_8.out)|exact HB.out)) hb);(try clear hb);(try clear hb2);(try clear hk);(try clear hi);have m_G : w78.cell? ⟨b_K,0,none⟩ = some (.slice none 0 0):=(a_a b_3.out 0).trans rfl;have m_H : w78.cell? ⟨b_K,1,none⟩ = some (.int .i64 0):=(a_a b_3.out 1).trans rfl;have m_I:=a_b b_3.out 0;have m_J:=a_b b_3.out 1))
  refine bodyPost_ret (c_o rfl _ _ b_K 24 #[.slice none 0 0,.int .i64 0] (0,0) _ rfl (by (with_reducible repeat (first|refine a_j ?_ _|refine a_k ?_|refine a_i ?_ _));refine a_J (cs:=#[.slice none 0 0,.int .i64 0]) ?_ 1 _ rfl;(with_reducible repeat (first|refine a_j ?_ _|refine a_k ?_|refine a_i ?_ _));refine a_J (cs:=#[.slice none 0 0,.int .i64 0]) ?_ 0 _ rfl;(with_reducible repeat (first|refine a_j ?_ _|refine a_k ?_|refine a_i ?_ _));exact b_3.out) Try.underlying24 rfl (by kernel_rfl)) rfl ?_
  exact ⟨_,by first|rfl|(simp [a_w,a_x] <;> rfl)|(simp [*, a_w,a_x] <;> rfl),by first|exact Kd.k_l _ _ _ _ _|exact Kd.i_U _ _ _ _ _|exact Kd.h_O _ _ _ _ _|exact Kd.k_e _ _ _ _ _|exact Kd.i_b _ _ _ _ _,by repeat (first|(with_reducible first|exact HB.out|apply a_g|apply a_f|apply a_h|refine a_d ?_ c_2.out|refine a_d ?_ d_0.out|refine a_d ?_ e_8.out)|exact HB.out)⟩
 subst c6
 have H1 : (if a1_0 < a0_1 then (some (([] : List (S27)),0,2)) else ((d_R.f l0_0).bind fun t137 => (if (t137.length : Int) > 0 then (if 0 ≤ (wrap64 ((t137.length : Int) - 1)) then (if (wrap64 ((t137.length : Int) - 1)) < (t137.length : Int) then (a_Y.j0 k t137 (t137.length : Int) (((a_o t137 (wrap64 ((t137.length : Int) - 1))).f0) == a1_0) a1_0 l1_1) else (none)) else (none)) else (a_Y.j0 k t137 (t137.length : Int) false a1_0 l1_1)))) = some (r1,r2,r3):=by rw [if_pos rfl] at H;exact H
 clear H
 have H:=H1
 clear H1
 by_cases c7 : a1_0 < a0_1
 ·rw [if_pos c7] at H
  have c7b0 : decide (a1_0 < a0_1) = true:=decide_eq_true c7
  clear c7
  simp only [Option.some.injEq,Prod.mk.injEq] at H
  obtain ⟨rfl,rfl,rfl⟩:=H
  go_enter Try.func10,Try.ntmps10
  go_wp2_with (first|((with_reducible refine a_U (N:=2) rfl ?_);refine a_H ?hg (N:=2) ?hd (cs:=#[.slice A0_0 l0_0.length c0_0,.int .i64 a0_1]) (t:=24) ?hr ?_;(case hd => rfl);(case hg => rfl);(case hr => first|(go_simp;done)|(go_simp;rfl));intro c_c hg w8 hbox hb;have b_E:=a_e.mk (hbox);have t_l:=a_e.mk ((by rw [hg];exact (a_p (lup_ HB.out)) : w.heap.size ≤ c_c));have c_2:=a_e.mk ((by rw [hg];exact (a_p (lup_ HB.out)) : w.heap.size ≤ c_c));replace b_o:=a_e.mk (Kd.a_3 (Kd.b_q (by (with_reducible repeat (first|apply Kd.a_Q|apply Kd.a_O|apply Kd.a_W));exact b_o.out) c_c (Nat.le_of_eq hg.symm)) hb);replace b_Z:=a_e.mk (Kd.a_3 (Kd.b_q (by (with_reducible repeat (first|apply Kd.a_Q|apply Kd.a_O|apply Kd.a_W));exact b_Z.out) c_c (Nat.le_of_eq hg.symm)) hb);replace HB:=a_e.mk (a_t (lup_ HB.out) hb);clear hb hbox hg)|((with_reducible refine a_U (N:=3) rfl ?_);refine a_H ?hg (N:=3) ?hd (cs:=#[.int .i64 a1_0,.slice A1_1 l1_1.length c1_1]) (t:=27) ?hr ?_;(case hd => rfl);(case hg => rfl);(case hr => first|(go_simp;done)|(go_simp;rfl));intro b_8 hg w9 hbox hb;have b_M:=a_e.mk (hbox);have t_m:=a_e.mk ((by rw [hg];exact (a_p (by repeat (first|(with_reducible first|exact HB.out|apply a_g|apply a_f|apply a_h|refine a_d ?_ c_2.out)|exact HB.out))) : w.heap.size ≤ b_8));have d_0:=a_e.mk ((by rw [hg];exact (a_p (by repeat (first|(with_reducible first|exact HB.out|apply a_g|apply a_f|apply a_h|refine a_d ?_ c_2.out)|exact HB.out))) : w.heap.size ≤ b_8));have f_G:=a_e.mk ((by rw [hg];exact Nat.ne_of_lt (a_N (bup_ b_E.out)) : c_c ≠ b_8));have f_H:=a_e.mk ((by rw [hg];exact Nat.ne_of_gt (a_N (bup_ b_E.out)) : b_8 ≠ c_c));replace b_o:=a_e.mk (Kd.a_3 (Kd.b_q (by (with_reducible repeat (first|apply Kd.a_Q|apply Kd.a_O|apply Kd.a_W));exact b_o.out) b_8 (Nat.le_of_eq hg.symm)) hb);replace b_Z:=a_e.mk (Kd.a_3 (Kd.b_q (by (with_reducible repeat (first|apply Kd.a_Q|apply Kd.a_O|apply Kd.a_W));exact b_Z.out) b_8 (Nat.le_of_eq hg.symm)) hb);replace b_E:=a_e.mk (a_l (bup_ b_E.out) hb);replace HB:=a_e.mk (a_t (by repeat (first|(with_reducible first|exact HB.out|apply a_g|apply a_f|apply a_h|refine a_d ?_ c_2.out)|exact HB.out)) hb);clear hb hbox hg)|((with_reducible refine a_U (N:=4) rfl ?_);refine a_H ?hg (N:=4) ?hd (cs:=#[.slice none 0 0,.int .i64 0]) (t:=24) ?hr ?_;(case hd => rfl);(case hg => rfl);(case hr => first|(go_simp;done)|(go_simp;rfl));intro b_K hg w10 hbox hb;have b_3:=a_e.mk (hbox);have t_n:=a_e.mk ((by rw [hg];exact (a_p (by repeat (first|(with_reducible first|exact HB.out|apply a_g|apply a_f|apply a_h|refine a_d ?_ c_2.out|refine a_d ?_ d_0.out)|exact HB.out))) : w.heap.size ≤ b_K));have e_8:=a_e.mk ((by rw [hg];exact (a_p (by repeat (first|(with_reducible first|exact HB.out|apply a_g|apply a_f|apply a_h|refine a_d ?_ c_2.out|refine a_d ?_ d_0.out)|exact HB.out))) : w.heap.size ≤ b_K));have d_V:=a_e.mk ((by rw [hg];exact Nat.ne_of_lt (a_N (bup_ b_E.out)) : c_c ≠ b_K));have d_W:=a_e.mk ((by rw [hg];exact Nat.ne_of_gt (a_N (bup_ b_E.out)) : b_K ≠ c_c));have c_h:=a_e.mk ((by rw [hg];exact Nat.ne_of_lt (a_N (bup_ b_M.out)) : b_8 ≠ b_K));have d_X:=a_e.mk ((by rw [hg];exact Nat.ne_of_gt (a_N (bup_ b_M.out)) : b_K ≠ b_8));replace b_o:=a_e.mk (Kd.a_3 (Kd.b_q (by (with_reducible repeat (first|apply Kd.a_Q|apply Kd.a_O|apply Kd.a_W));exact b_o.out) b_K (Nat.le_of_eq hg.symm)) hb);replace b_Z:=a_e.mk (Kd.a_3 (Kd.b_q (by (with_reducible repeat (first|apply Kd.a_Q|apply Kd.a_O|apply Kd.a_W));exact b_Z.out) b_K (Nat.le_of_eq hg.symm)) hb);replace b_E:=a_e.mk (a_l (bup_ b_E.out) hb);replace b_M:=a_e.mk (a_l (bup_ b_M.out) hb);replace HB:=a_e.mk (a_t (by repeat (first|(with_reducible first|exact HB.out|apply a_g|apply a_f|apply a_h|refine a_d ?_ c_2.out|refine a_d ?_ d_0.out)|exact HB.out)) hb);clear hb hbox hg;have O_o:=f_G.out;have O_p:=f_H.out;have t_s:=d_V.out;have t_t:=d_W.out;have g_d : w10.cell? ⟨c_c,0,none⟩ = some (.slice A0_0 l0_0.length c0_0):=(a_a b_E.out 0).trans rfl;have g_e : w10.cell? ⟨c_c,1,none⟩ = some (.int .i64 a0_1):=(a_a b_E.out 1).trans rfl;have g_f:=a_b b_E.out 0;have g_g:=a_b b_E.out 1)|((with_reducible refine a_P (f:=14) rfl ?_);refine b_v (some 10) rfl rfl Try.func14 (by kernel_rfl) rfl #[.agg #[.slice A0_0 l0_0.length c0_0,.int .i64 a0_1]] rfl (by (try simp only [List.map_toArray,List.map_cons,List.map_nil]);first|done|rfl|(simp only [List.length_drop,List.length_take];rfl)) ?_;(with_reducible refine (a_A.calls k _ _ l0_0 a0_1 t135 _ ?side1 ?side2 A3.out).mono ?_);(case side1 => repeat (first|exact (Kd.b_n b_o.out).2.2|(with_reducible refine Kd.a_9 ?_ _)|(with_reducible refine Kd.a_8 ?_ _)|(with_reducible refine Kd.b_i ?_)));(case side2 => exact (Kd.b_n b_o.out).2.1);rintro e w14 ⟨rfl,hb⟩;refine ⟨_,rfl,?_⟩;replace b_o:=a_e.mk (Kd.a_3 (by (with_reducible repeat (first|apply Kd.a_Q|apply Kd.a_O|apply Kd.a_W));exact b_o.out) hb);replace b_Z:=a_e.mk (Kd.a_3 (by (with_reducible repeat (first|apply Kd.a_Q|apply Kd.a_O|apply Kd.a_W));exact b_Z.out) hb);replace b_E:=a_e.mk (a_l (bup_ b_E.out) hb);replace b_M:=a_e.mk (a_l (bup_ b_M.out) hb);replace b_3:=a_e.mk (a_l (bup_ b_3.out) hb);replace HB:=a_e.mk (a_t (by repeat (first|(with_reducible first|exact HB.out|apply a_g|apply a_f|apply a_h|refine a_d ?_ c_2.out|refine a_d ?_ d_0.out|refine a_d ?_ e_8.out)|exact HB.out)) hb);(try clear hb);(try clear hb2);(try clear hk);(try clear hi);have r_p:=c_h.out;have r_q:=d_X.out;have h_d : w14.cell? ⟨b_8,0,none⟩ = some (.int .i64 a1_0):=(a_a b_M.out 0).trans rfl;have h_e : w14.cell? ⟨b_8,1,none⟩ = some (.slice A1_1 l1_1.length c1_1):=(a_a b_M.out 1).trans rfl;have h_f:=a_b b_M.out 0;have h_g:=a_b b_M.out 1)|((with_reducible refine a_P (f:=24) rfl ?_);refine b_v (some 15) rfl rfl Try.func24 (by kernel_rfl) rfl #[.agg #[.int .i64 a1_0,.slice A1_1 l1_1.length c1_1]] rfl (by (try simp only [List.map_toArray,List.map_cons,List.map_nil]);first|done|rfl|(simp only [List.length_drop,List.length_take];rfl)) ?_;(with_reducible refine (a_G.calls k a1_0 _ _ l1_1 true _ ?side1 ?side2 A5.out).mono ?_);(case side1 => repeat (first|exact (Kd.b_n b_Z.out).2.2|(with_reducible refine Kd.a_9 ?_ _)|(with_reducible refine Kd.a_8 ?_ _)|(with_reducible refine Kd.b_i ?_)));(case side2 => exact (Kd.b_n b_Z.out).2.1);rintro e w17 ⟨rfl,hb⟩;refine ⟨_,rfl,?_⟩;replace b_o:=a_e.mk (Kd.a_3 (by (with_reducible repeat (first|apply Kd.a_Q|apply Kd.a_O|apply Kd.a_W));exact b_o.out) hb);replace b_Z:=a_e.mk (Kd.a_3 (by (with_reducible repeat (first|apply Kd.a_Q|apply Kd.a_O|apply Kd.a_W));exact b_Z.out) hb);replace b_E:=a_e.mk (a_l (bup_ b_E.out) hb);replace b_M:=a_e.mk (a_l (bup_ b_M.out) hb);replace b_3:=a_e.mk (a_l (bup_ b_3.out) hb);replace HB:=a_e.mk (a_t (by repeat (first|(with_reducible first|exact HB.out|apply a_g|apply a_f|apply a_h|refine a_d ?_ c_2.out|refine a_d ?_ d_0.out|refine a_d ?_ e_8.out)|exact HB.out)) hb);(try clear hb);(try clear hb2);(try clear hk);(try clear hi);have k_S : w17.cell? ⟨b_8,0,none⟩ = some (.int .i64 a1_0):=(a_a b_M.out 0).trans rfl;have k_T : w17.cell? ⟨b_8,1,none⟩ = some (.slice A1_1 l1_1.length c1_1):=(a_a b_M.out 1).trans rfl;have k_U:=a_b b_M.out 0;have k_V:=a_b b_M.out 1;have h_h : w17.cell? ⟨c_c,0,none⟩ = some (.slice A0_0 l0_0.length c0_0):=(a_a b_E.out 0).trans rfl;have h_i : w17.cell? ⟨c_c,1,none⟩ = some (.int .i64 a0_1):=(a_a b_E.out 1).trans rfl;have h_j:=a_b b_E.out 0;have h_k:=a_b b_E.out 1;have k_Q : w17.cell? ⟨b_K,0,none⟩ = some (.slice none 0 0):=(a_a b_3.out 0).trans rfl;have m_K : w17.cell? ⟨b_K,1,none⟩ = some (.int .i64 0):=(a_a b_3.out 1).trans rfl;have k_R:=a_b b_3.out 0;have m_L:=a_b b_3.out 1))
  refine bodyPost_ret (c_o rfl _ _ b_K 24 #[.slice none 0 0,.int .i64 0] (0,0) _ rfl (by (with_reducible repeat (first|refine a_j ?_ _|refine a_k ?_|refine a_i ?_ _));refine a_J (cs:=#[.slice none 0 0,.int .i64 0]) ?_ 1 _ rfl;(with_reducible repeat (first|refine a_j ?_ _|refine a_k ?_|refine a_i ?_ _));refine a_J (cs:=#[.slice none 0 0,.int .i64 0]) ?_ 0 _ rfl;(with_reducible repeat (first|refine a_j ?_ _|refine a_k ?_|refine a_i ?_ _));exact b_3.out) Try.underlying24 rfl (by kernel_rfl)) rfl ?_
  exact ⟨_,by first|rfl|(simp [a_w,a_x] <;> rfl)|(simp [*, a_w,a_x] <;> rfl),by first|exact Kd.k_l _ _ _ _ _|exact Kd.i_U _ _ _ _ _|exact Kd.h_O _ _ _ _ _|exact Kd.k_e _ _ _ _ _|exact Kd.i_b _ _ _ _ _,by repeat (first|(with_reducible first|exact HB.out|apply a_g|apply a_f|apply a_h|refine a_d ?_ c_2.out|refine a_d ?_ d_0.out|refine a_d ?_ e_8.out)|exact HB.out)⟩
 rw [if_neg c7] at H
 have c7b0 : decide (a1_0 < a0_1) = false:=decide_eq_false c7
 clear c7
 replace H:=Option.bind_eq_some_iff.mp H
 obtain ⟨t137,A210,H⟩:=H
 replace H : (if (t137.length : Int) > 0 then (if 0 ≤ (wrap64 ((t137.length : Int) - 1)) then (if (wrap64 ((t137.length : Int) - 1)) < (t137.length : Int) then (a_Y.j0 k t137 (t137.length : Int) (((a_o t137 (wrap64 ((t137.length : Int) - 1))).f0) == a1_0) a1_0 l1_1) else (none)) else (none)) else (a_Y.j0 k t137 (t137.length : Int) false a1_0 l1_1)) = some (r1,r2,r3):=H
 have A21:=a_e.mk A210
 clear A210
 have HC22:=a_e.mk H
 clear H
 go_enter Try.func10,Try.ntmps10
 go_upto_region 7 with (first|((with_reducible refine a_U (N:=2) rfl ?_);refine a_H ?hg (N:=2) ?hd (cs:=#[.slice A0_0 l0_0.length c0_0,.int .i64 a0_1]) (t:=24) ?hr ?_;(case hd => rfl);(case hg => rfl);(case hr => first|(go_simp;done)|(go_simp;rfl));intro c_c hg w23 hbox hb;have b_E:=a_e.mk (hbox);have t_l:=a_e.mk ((by rw [hg];exact (a_p (lup_ HB.out)) : w.heap.size ≤ c_c));have c_2:=a_e.mk ((by rw [hg];exact (a_p (lup_ HB.out)) : w.heap.size ≤ c_c));replace b_o:=a_e.mk (Kd.a_3 (Kd.b_q (by (with_reducible repeat (first|apply Kd.a_Q|apply Kd.a_O|apply Kd.a_W));exact b_o.out) c_c (Nat.le_of_eq hg.symm)) hb);replace b_Z:=a_e.mk (Kd.a_3 (Kd.b_q (by (with_reducible repeat (first|apply Kd.a_Q|apply Kd.a_O|apply Kd.a_W));exact b_Z.out) c_c (Nat.le_of_eq hg.symm)) hb);replace HB:=a_e.mk (a_t (lup_ HB.out) hb);clear hb hbox hg)|((with_reducible refine a_U (N:=3) rfl ?_);refine a_H ?hg (N:=3) ?hd (cs:=#[.int .i64 a1_0,.slice A1_1 l1_1.length c1_1]) (t:=27) ?hr ?_;(case hd => rfl);(case hg => rfl);(case hr => first|(go_simp;done)|(go_simp;rfl));intro b_8 hg w24 hbox hb;have b_M:=a_e.mk (hbox);have t_m:=a_e.mk ((by rw [hg];exact (a_p (by repeat (first|(with_reducible first|exact HB.out|apply a_g|apply a_f|apply a_h|refine a_d ?_ c_2.out)|exact HB.out))) : w.heap.size ≤ b_8));have d_0:=a_e.mk ((by rw [hg];exact (a_p (by repeat (first|(with_reducible first|exact HB.out|apply a_g|apply a_f|apply a_h|refine a_d ?_ c_2.out)|exact HB.out))) : w.heap.size ≤ b_8));have f_G:=a_e.mk ((by rw [hg];exact Nat.ne_of_lt (a_N (bup_ b_E.out)) : c_c ≠ b_8));have f_H:=a_e.mk ((by rw [hg];exact Nat.ne_of_gt (a_N (bup_ b_E.out)) : b_8 ≠ c_c));replace b_o:=a_e.mk (Kd.a_3 (Kd.b_q (by (with_reducible repeat (first|apply Kd.a_Q|apply Kd.a_O|apply Kd.a_W));exact b_o.out) b_8 (Nat.le_of_eq hg.symm)) hb);replace b_Z:=a_e.mk (Kd.a_3 (Kd.b_q (by (with_reducible repeat (first|apply Kd.a_Q|apply Kd.a_O|apply Kd.a_W));exact b_Z.out) b_8 (Nat.le_of_eq hg.symm)) hb);replace b_E:=a_e.mk (a_l (bup_ b_E.out) hb);replace HB:=a_e.mk (a_t (by repeat (first|(with_reducible first|exact HB.out|apply a_g|apply a_f|apply a_h|refine a_d ?_ c_2.out)|exact HB.out)) hb);clear hb hbox hg)|((with_reducible refine a_U (N:=4) rfl ?_);refine a_H ?hg (N:=4) ?hd (cs:=#[.slice none 0 0,.int .i64 0]) (t:=24) ?hr ?_;(case hd => rfl);(case hg => rfl);(case hr => first|(go_simp;done)|(go_simp;rfl));intro b_K hg w25 hbox hb;have b_3:=a_e.mk (hbox);have t_n:=a_e.mk ((by rw [hg];exact (a_p (by repeat (first|(with_reducible first|exact HB.out|apply a_g|apply a_f|apply a_h|refine a_d ?_ c_2.out|refine a_d ?_ d_0.out)|exact HB.out))) : w.heap.size ≤ b_K));have e_8:=a_e.mk ((by rw [hg];exact (a_p (by repeat (first|(with_reducible first|exact HB.out|apply a_g|apply a_f|apply a_h|refine a_d ?_ c_2.out|refine a_d ?_ d_0.out)|exact HB.out))) : w.heap.size ≤ b_K));have d_V:=a_e.mk ((by rw [hg];exact Nat.ne_of_lt (a_N (bup_ b_E.out)) : c_c ≠ b_K));have d_W:=a_e.mk ((by rw [hg];exact Nat.ne_of_gt (a_N (bup_ b_E.out)) : b_K ≠ c_c));have c_h:=a_e.mk ((by rw [hg];exact Nat.ne_of_lt (a_N (bup_ b_M.out)) : b_8 ≠ b_K));have d_X:=a_e.mk ((by rw [hg];exact Nat.ne_of_gt (a_N (bup_ b_M.out)) : b_K ≠ b_8));replace b_o:=a_e.mk (Kd.a_3 (Kd.b_q (by (with_reducible repeat (first|apply Kd.a_Q|apply Kd.a_O|apply Kd.a_W));exact b_o.out) b_K (Nat.le_of_eq hg.symm)) hb);replace b_Z:=a_e.mk (Kd.a_3 (Kd.b_q (by (with_reducible repeat (first|apply Kd.a_Q|apply Kd.a_O|apply Kd.a_W));exact b_Z.out) b_K (Nat.le_of_eq hg.symm)) hb);replace b_E:=a_e.mk (a_l (bup_ b_E.out) hb);replace b_M:=a_e.mk (a_l (bup_ b_M.out) hb);replace HB:=a_e.mk (a_t (by repeat (first|(with_reducible first|exact HB.out|apply a_g|apply a_f|apply a_h|refine a_d ?_ c_2.out|refine a_d ?_ d_0.out)|exact HB.out)) hb);clear hb hbox hg;have B_m:=f_G.out;have B_n:=f_H.out;have w_u:=d_V.out;have w_v:=d_W.out;have i_o : w25.cell? ⟨c_c,0,none⟩ = some (.slice A0_0 l0_0.length c0_0):=(a_a b_E.out 0).trans rfl;have i_p : w25.cell? ⟨c_c,1,none⟩ = some (.int .i64 a0_1):=(a_a b_E.out 1).trans rfl;have i_q:=a_b b_E.out 0;have i_r:=a_b b_E.out 1)|((with_reducible refine a_P (f:=14) rfl ?_);refine b_v (some 10) rfl rfl Try.func14 (by kernel_rfl) rfl #[.agg #[.slice A0_0 l0_0.length c0_0,.int .i64 a0_1]] rfl (by (try simp only [List.map_toArray,List.map_cons,List.map_nil]);first|done|rfl|(simp only [List.length_drop,List.length_take];rfl)) ?_;(with_reducible refine (a_A.calls k _ _ l0_0 a0_1 t135 _ ?side1 ?side2 A3.out).mono ?_);(case side1 => repeat (first|exact (Kd.b_n b_o.out).2.2|(with_reducible refine Kd.a_9 ?_ _)|(with_reducible refine Kd.a_8 ?_ _)|(with_reducible refine Kd.b_i ?_)));(case side2 => exact (Kd.b_n b_o.out).2.1);rintro e w29 ⟨rfl,hb⟩;refine ⟨_,rfl,?_⟩;replace b_o:=a_e.mk (Kd.a_3 (by (with_reducible repeat (first|apply Kd.a_Q|apply Kd.a_O|apply Kd.a_W));exact b_o.out) hb);replace b_Z:=a_e.mk (Kd.a_3 (by (with_reducible repeat (first|apply Kd.a_Q|apply Kd.a_O|apply Kd.a_W));exact b_Z.out) hb);replace b_E:=a_e.mk (a_l (bup_ b_E.out) hb);replace b_M:=a_e.mk (a_l (bup_ b_M.out) hb);replace b_3:=a_e.mk (a_l (bup_ b_3.out) hb);replace HB:=a_e.mk (a_t (by repeat (first|(with_reducible first|exact HB.out|apply a_g|apply a_f|apply a_h|refine a_d ?_ c_2.out|refine a_d ?_ d_0.out|refine a_d ?_ e_8.out)|exact HB.out)) hb);(try clear hb);(try clear hb2);(try clear hk);(try clear hi);have t_u:=c_h.out;have t_v:=d_X.out;have m_M : w29.cell? ⟨b_8,0,none⟩ = some (.int .i64 a1_0):=(a_a b_M.out 0).trans rfl;have m_N : w29.cell? ⟨b_8,1,none⟩ = some (.slice A1_1 l1_1.length c1_1):=(a_a b_M.out 1).trans rfl;have m_O:=a_b b_M.out 0;have m_P:=a_b b_M.out 1)|((with_reducible refine a_P (f:=24) rfl ?_);refine b_v (some 15) rfl rfl Try.func24 (by kernel_rfl) rfl #[.agg #[.int .i64 a1_0,.slice A1_1 l1_1.length c1_1]] rfl (by (try simp only [List.map_toArray,List.map_cons,List.map_nil]);first|done|rfl|(simp only [List.length_drop,List.length_take];rfl)) ?_;(with_reducible refine (a_G.calls k a1_0 _ _ l1_1 true _ ?side1 ?side2 A5.out).mono ?_);(case side1 => repeat (first|exact (Kd.b_n b_Z.out).2.2|(with_reducible refine Kd.a_9 ?_ _)|(with_reducible refine Kd.a_8 ?_ _)|(with_reducible refine Kd.b_i ?_)));(case side2 => exact (Kd.b_n b_Z.out).2.1);rintro e w32 ⟨rfl,hb⟩;refine ⟨_,rfl,?_⟩;replace b_o:=a_e.mk (Kd.a_3 (by (with_reducible repeat (first|apply Kd.a_Q|apply Kd.a_O|apply Kd.a_W));exact b_o.out) hb);replace b_Z:=a_e.mk (Kd.a_3 (by (with_reducible repeat (first|apply Kd.a_Q|apply Kd.a_O|apply Kd.a_W));exact b_Z.out) hb);replace b_E:=a_e.mk (a_l (bup_ b_E.out) hb);replace b_M:=a_e.mk (a_l (bup_ b_M.out) hb);replace b_3:=a_e.mk (a_l (bup_ b_3.out) hb);replace HB:=a_e.mk (a_t (by repeat (first|(with_reducible first|exact HB.out|apply a_g|apply a_f|apply a_h|refine a_d ?_ c_2.out|refine a_d ?_ d_0.out|refine a_d ?_ e_8.out)|exact HB.out)) hb);(try clear hb);(try clear hb2);(try clear hk);(try clear hi);have m_Q : w32.cell? ⟨b_8,0,none⟩ = some (.int .i64 a1_0):=(a_a b_M.out 0).trans rfl;have m_R : w32.cell? ⟨b_8,1,none⟩ = some (.slice A1_1 l1_1.length c1_1):=(a_a b_M.out 1).trans rfl;have m_S:=a_b b_M.out 0;have m_T:=a_b b_M.out 1;have m_U : w32.cell? ⟨c_c,0,none⟩ = some (.slice A0_0 l0_0.length c0_0):=(a_a b_E.out 0).trans rfl;have m_V : w32.cell? ⟨c_c,1,none⟩ = some (.int .i64 a0_1):=(a_a b_E.out 1).trans rfl;have m_W:=a_b b_E.out 0;have m_X:=a_b b_E.out 1)|((with_reducible refine a_P (f:=25) rfl ?_);refine b_v (some 27) rfl rfl Try.func25 (by kernel_rfl) rfl #[.slice A0_0 l0_0.length c0_0] rfl (by (try simp only [List.map_toArray,List.map_cons,List.map_nil]);first|done|rfl|(simp only [List.length_drop,List.length_take];rfl)) ?_;(with_reducible refine (d_R.calls (fun k_ => (((((P0_0_ k_ ∨ P1_1_ k_) ∨ w.heap.size ≤ k_) ∧ k_ ≠ c_c) ∧ k_ ≠ b_8) ∧ k_ ≠ b_K)) _ _ l0_0 t137 _ ?side1 A21.out).mono ?_);(case side1 => exact b_o.out);rintro e w35 ⟨v138,rfl,ho0,hb⟩;refine ⟨_,rfl,?_⟩;have i_L:=a_e.mk (Kd.i_e (Kd.b_P (ok':=fun k_ => ((P0_0_ k_ ∨ P1_1_ k_) ∨ w.heap.size ≤ k_) ∧ k_ ≠ c_c ∧ k_ ≠ b_8 ∧ k_ ≠ b_K) ho0 (fun k_ hk_ => ⟨Or.elim hk_ (fun hs_ => hs_.1.1.1) (fun hn_ => (.inr (Nat.le_trans (a_p (by repeat (first|(with_reducible first|exact HB.out|apply a_g|apply a_f|apply a_h|refine a_d ?_ c_2.out|refine a_d ?_ d_0.out|refine a_d ?_ e_8.out)|exact HB.out))) hn_))),Or.elim hk_ (fun hs_ => hs_.1.1.2) (fun hn_ => (Kd.d_g (g:=c_c) (o:=.cells #[.slice A0_0 l0_0.length c0_0,.int .i64 a0_1] 24 (0,0)) (bup_ b_E.out) k_ hn_)),Or.elim hk_ (fun hs_ => hs_.1.2) (fun hn_ => (Kd.d_g (g:=b_8) (o:=.cells #[.int .i64 a1_0,.slice A1_1 l1_1.length c1_1] 27 (0,0)) (bup_ b_M.out) k_ hn_)),Or.elim hk_ (fun hs_ => hs_.2) (fun hn_ => (Kd.d_g (g:=b_K) (o:=.cells #[.slice none 0 0,.int .i64 0] 24 (0,0)) (bup_ b_3.out) k_ hn_))⟩)) (a_p (by repeat (first|(with_reducible first|exact HB.out|apply a_g|apply a_f|apply a_h|refine a_d ?_ c_2.out|refine a_d ?_ d_0.out|refine a_d ?_ e_8.out)|exact HB.out))));replace b_o:=a_e.mk (Kd.g_X (by (with_reducible repeat (first|apply Kd.a_Q|apply Kd.a_O|apply Kd.a_W));exact b_o.out) (Kd.g_H ho0) hb);replace b_Z:=a_e.mk (Kd.g_X (by (with_reducible repeat (first|apply Kd.a_Q|apply Kd.a_O|apply Kd.a_W));exact b_Z.out) (Kd.g_H ho0) hb);replace b_E:=a_e.mk (a_l (bup_ b_E.out) hb);replace b_M:=a_e.mk (a_l (bup_ b_M.out) hb);replace b_3:=a_e.mk (a_l (bup_ b_3.out) hb);replace HB:=a_e.mk (a_t (by repeat (first|(with_reducible first|exact HB.out|apply a_g|apply a_f|apply a_h|refine a_d ?_ c_2.out|refine a_d ?_ d_0.out|refine a_d ?_ e_8.out)|exact HB.out)) hb);(try clear hb);(try clear hb2);(try clear hk);(try clear hi);(try clear ho0);obtain ⟨Ao36,co36,eo36⟩:=Kd.f_A i_L.out;subst eo36))
 (try simp only [Act.put,sa_,sb_,sc_])
 go_cut [42] (fun v42 wc => ∃ (kq : Nat) (x42_21 : Bool),v42 = .bool x42_21 ∧ a_e (a_Y.j0 kq t137 (t137.length : Int) x42_21 a1_0 l1_1 = some (r1,r2,r3)) ∧ a_e (kq ≤ k) ∧ a_e (Kd.N k27 27 wc w.heap.size (fun k_ => ((P0_0_ k_ ∨ P1_1_ k_) ∨ w.heap.size ≤ k_) ∧ k_ ≠ c_c ∧ k_ ≠ b_8 ∧ k_ ≠ b_K) (.slice Ao36 t137.length co36) t137) ∧ a_e (Kd.V k27 27 wc w.heap.size (fun k_ => ((P0_0_ k_ ∨ P1_1_ k_) ∨ w.heap.size ≤ k_) ∧ some k_ ≠ ((.slice Ao36 t137.length co36) : Value).ownBlock ∧ k_ ≠ c_c ∧ k_ ≠ b_8 ∧ k_ ≠ b_K) (.slice A0_0 l0_0.length c0_0) l0_0) ∧ a_e (Kd.V k65 65 wc w.heap.size (fun k_ => ((P0_0_ k_ ∨ P1_1_ k_) ∨ w.heap.size ≤ k_) ∧ some k_ ≠ ((.slice Ao36 t137.length co36) : Value).ownBlock ∧ k_ ≠ c_c ∧ k_ ≠ b_8 ∧ k_ ≠ b_K) (.slice A1_1 l1_1.length c1_1) l1_1) ∧ a_e (wc.heap[c_c]? = some (.cells #[(.slice A0_0 l0_0.length c0_0),.int .i64 a0_1] 24 (0,0))) ∧ a_e (wc.heap[b_8]? = some (.cells #[.int .i64 a1_0,(.slice A1_1 l1_1.length c1_1)] 27 (0,0))) ∧ a_e (wc.heap[b_K]? = some (.cells #[(.slice none 0 0),.int .i64 0] 24 (0,0))) ∧ a_e (Below w.heap.size w wc))
 case first =>
  have H:=HC22.out
  clear HC22
  by_cases c37 : (t137.length : Int) > 0
  rotate_left
  ·rw [if_neg c37] at H
   have c37b0 : decide (0 < (t137.length : Int)) = false:=decide_eq_false c37
   have c37b1 : decide (0 < t137.length) = false:=decide_eq_false (by omega)
   clear c37
   (first|rw [c37b0]|(simp only [a_r,a_s];rw [c37b0])|skip)
   have H':=a_e.mk H
   clear H
   try go_wp2
   replace b_o:=a_e.mk (Kd.a_W b_o.out)
   replace b_Z:=a_e.mk (Kd.a_W b_Z.out)
   replace i_L:=a_e.mk (Kd.a_Z i_L.out)
   replace b_E:=a_e.mk (a_k b_E.out)
   replace b_M:=a_e.mk (a_k b_M.out)
   replace b_3:=a_e.mk (a_k b_3.out)
   replace HB:=a_e.mk (a_h HB.out)
   refine d_H (n:=13) (S:=fun w' => True) (ds:=[]) Z4_ (by kernel_rfl) rfl rfl trivial (fun hHeld => ?_);refine b_Q a_Y.tab7 a_Y.n_V (fun HT_ HW_ => ?_)
   generalize w35.drew = w42 at b_o b_Z i_L b_E b_M b_3 HB hHeld ⊢
   refine a_y (i:=0) (N:=some 30) (v:=?_) (a':=?_) Z10_ rfl rfl (a_n HT_.out (by kernel_rfl)) (fun _ _ _ h => h) (Or.inl ⟨by rfl,?_⟩) ?_ ?_
   rotate_left
   ·intro w'
    go_simp
    with_reducible rfl
   rotate_left
   ·simp only [Act.put,sa_,sb_,sc_,a_r,a_s]
    rfl
   refine a_y (i:=1) (N:=some 31) (v:=?_) (a':=?_) #[T_,T_,F_,F_,F_,F_,F_,F_,F_,F_,F_,F_,F_] rfl rfl (a_n HT_.out (by kernel_rfl)) (fun _ _ _ h => h) (Or.inl ⟨by rfl,?_⟩) ?_ ?_
   rotate_left
   ·intro w'
    go_simp
    with_reducible rfl
   rotate_left
   ·simp only [Act.put,sa_,sb_,sc_,a_r,a_s]
    rfl
   refine a_y (i:=2) (N:=some 32) (v:=?_) (a':=?_) #[T_,T_,T_,F_,F_,F_,F_,F_,F_,F_,F_,F_,F_] rfl rfl (a_n HT_.out (by kernel_rfl)) (fun _ _ _ h => h) (Or.inl ⟨by rfl,?_⟩) ?_ ?_
   rotate_left
   ·intro w'
    go_simp
    with_reducible rfl
   rotate_left
   ·simp only [Act.put,sa_,sb_,sc_,a_r,a_s]
    rfl
   refine a_y (i:=3) (N:=some 33) (v:=undef) (a':=?_) #[T_,T_,T_,T_,F_,F_,F_,F_,F_,F_,F_,F_,F_] rfl rfl (a_n HT_.out (by kernel_rfl)) (fun _ _ _ h => h) (Or.inr ⟨by rfl,rfl⟩) ?_ ?_
   rotate_left
   ·simp only [Act.put,sa_,sb_,sc_,a_r,a_s]
    rfl
   refine a_y (i:=4) (N:=some 34) (v:=undef) (a':=?_) #[T_,T_,T_,T_,T_,F_,F_,F_,F_,F_,F_,F_,F_] rfl rfl (a_n HT_.out (by kernel_rfl)) (fun _ _ _ h => h) (Or.inr ⟨by rfl,rfl⟩) ?_ ?_
   rotate_left
   ·simp only [Act.put,sa_,sb_,sc_,a_r,a_s]
    rfl
   refine a_y (i:=5) (N:=some 35) (v:=undef) (a':=?_) #[T_,T_,T_,T_,T_,T_,F_,F_,F_,F_,F_,F_,F_] rfl rfl (a_n HT_.out (by kernel_rfl)) (fun _ _ _ h => h) (Or.inr ⟨by rfl,rfl⟩) ?_ ?_
   rotate_left
   ·simp only [Act.put,sa_,sb_,sc_,a_r,a_s]
    rfl
   refine a_y (i:=6) (N:=some 36) (v:=undef) (a':=?_) Z41_ rfl rfl (a_n HT_.out (by kernel_rfl)) (fun _ _ _ h => h) (Or.inr ⟨by rfl,rfl⟩) ?_ ?_
   rotate_left
   ·simp only [Act.put,sa_,sb_,sc_,a_r,a_s]
    rfl
   refine a_y (i:=7) (N:=some 37) (v:=undef) (a':=?_) Z47_ rfl rfl (a_n HT_.out (by kernel_rfl)) (fun _ _ _ h => h) (Or.inr ⟨by rfl,rfl⟩) ?_ ?_
   rotate_left
   ·simp only [Act.put,sa_,sb_,sc_,a_r,a_s]
    rfl
   refine a_y (i:=8) (N:=some 38) (v:=undef) (a':=?_) #[T_,T_,T_,T_,T_,T_,T_,T_,T_,F_,F_,F_,F_] rfl rfl (a_n HT_.out (by kernel_rfl)) (fun _ _ _ h => h) (Or.inr ⟨by rfl,rfl⟩) ?_ ?_
   rotate_left
   ·simp only [Act.put,sa_,sb_,sc_,a_r,a_s]
    rfl
   refine a_y (i:=9) (N:=some 39) (v:=undef) (a':=?_) Z61_ rfl rfl (a_n HT_.out (by kernel_rfl)) (fun _ _ _ h => h) (Or.inr ⟨by rfl,rfl⟩) ?_ ?_
   rotate_left
   ·simp only [Act.put,sa_,sb_,sc_,a_r,a_s]
    rfl
   refine a_y (i:=10) (N:=some 40) (v:=undef) (a':=?_) Z67_ rfl rfl (a_n HT_.out (by kernel_rfl)) (fun _ _ _ h => h) (Or.inr ⟨by rfl,rfl⟩) ?_ ?_
   rotate_left
   ·simp only [Act.put,sa_,sb_,sc_,a_r,a_s]
    rfl
   refine a_y (i:=11) (N:=some 41) (v:=undef) (a':=?_) Z73_ rfl rfl (a_n HT_.out (by kernel_rfl)) (fun _ _ _ h => h) (Or.inr ⟨by rfl,rfl⟩) ?_ ?_
   rotate_left
   ·simp only [Act.put,sa_,sb_,sc_,a_r,a_s]
    rfl
   refine a_y (i:=12) (N:=some 42) (v:=?_) (a':=?_) s_b rfl rfl (a_n HT_.out (by kernel_rfl)) (fun _ _ _ h => h) (Or.inl ⟨by rfl,?_⟩) ?_ ?_
   rotate_left
   ·intro w'
    go_simp
    with_reducible rfl
   rotate_left
   ·simp only [Act.put,sa_,sb_,sc_,a_r,a_s]
    rfl
   refine e_T (c_u HT_.out (by kernel_rfl)) ?_
   try go_wp2
   go_meet
   case rel => exact ⟨_,(false),(by first|rfl|(simp;done)|(simp [*];done)),H',⟨by first|omega|exact Nat.le_refl _⟩,⟨by (with_reducible repeat (first|apply Kd.a_R|apply Kd.a_S|apply Kd.a_Z));exact i_L.out⟩,⟨by (with_reducible repeat (first|apply Kd.a_Q|apply Kd.a_O|apply Kd.a_W));exact Kd.b_X b_o.out (fun _ hk => ⟨hk.1.1.1.1,⟨hk.2,⟨hk.1.1.1.2,⟨hk.1.1.2,hk.1.2⟩⟩⟩⟩)⟩,⟨by (with_reducible repeat (first|apply Kd.a_Q|apply Kd.a_O|apply Kd.a_W));exact Kd.b_X b_Z.out (fun _ hk => ⟨hk.1.1.1.1,⟨hk.2,⟨hk.1.1.1.2,⟨hk.1.1.2,hk.1.2⟩⟩⟩⟩)⟩,⟨by (with_reducible repeat (first|refine a_j ?_ _|refine a_k ?_|refine a_i ?_ _));exact b_E.out⟩,⟨by (with_reducible repeat (first|refine a_j ?_ _|refine a_k ?_|refine a_i ?_ _));exact b_M.out⟩,⟨by (with_reducible repeat (first|refine a_j ?_ _|refine a_k ?_|refine a_i ?_ _));exact b_3.out⟩,⟨by repeat (first|(with_reducible first|exact HB.out|apply a_g|apply a_f|apply a_h|refine a_d ?_ c_2.out|refine a_d ?_ d_0.out|refine a_d ?_ e_8.out)|exact HB.out)⟩⟩
  rw [if_pos c37] at H
  have c37b0 : decide (0 < (t137.length : Int)) = true:=decide_eq_true c37
  have c37b1 : decide (0 < t137.length) = true:=decide_eq_true (by omega)
  clear c37
  (first|rw [c37b0]|(simp only [a_r,a_s];rw [c37b0])|skip)
  obtain ⟨ji38,hji38⟩ : ∃ j_ : Int,(wrap64 ((t137.length : Int) - 1)) = j_:=⟨_,rfl⟩
  replace H : (if 0 ≤ (ji38) then (if (ji38) < (t137.length : Int) then (a_Y.j0 k t137 (t137.length : Int) (((a_o t137 (ji38)).f0) == a1_0) a1_0 l1_1) else (none)) else (none)) = some (r1,r2,r3):=by first|(rw [hji38] at H;exact H)|(simp only [hji38] at H ⊢; exact H)
  have hji38w : (IntKind.i64.wrap ((t137.length : Int) - 1)) = ji38:=(a_r _).trans hji38
  by_cases c39 : 0 ≤ (ji38)
  rotate_left
  ·rw [if_neg c39] at H
   exact absurd H (by simp)
  rw [if_pos c39] at H
  have c39b0 : decide (0 ≤ (ji38)) = true:=decide_eq_true c39
  clear c39
  by_cases c40 : (ji38) < (t137.length : Int)
  rotate_left
  ·rw [if_neg c40] at H
   exact absurd H (by simp)
  rw [if_pos c40] at H
  have c40b0 : decide ((ji38) < (t137.length : Int)) = true:=decide_eq_true c40
  clear c40
  have H':=a_e.mk H
  clear H
  try go_wp2
  replace b_o:=a_e.mk (Kd.a_W b_o.out)
  replace b_Z:=a_e.mk (Kd.a_W b_Z.out)
  replace i_L:=a_e.mk (Kd.a_Z i_L.out)
  replace b_E:=a_e.mk (a_k b_E.out)
  replace b_M:=a_e.mk (a_k b_M.out)
  replace b_3:=a_e.mk (a_k b_3.out)
  replace HB:=a_e.mk (a_h HB.out)
  have p140 : 0 ≤ ((ji38) : Int):=of_decide_eq_true (by first|(with_reducible assumption)|assumption)
  have q140 : (ji38) < (t137.length : Int):=of_decide_eq_true (by first|(with_reducible assumption)|assumption)
  obtain ⟨ad140,A140_1,c140_1,e140,m_Y,k_W,p_4,p_5⟩:=c_t (Kd.b_A i_L.out).2.2 (ji38) p140 q140
  cases e140
  obtain ⟨ce140,hce140,hMe140,hcc140⟩:=Kd.A_g i_L.out z27 (ji38) p140 (by first|exact q140|exact of_decide_eq_true (by first|(with_reducible assumption)|assumption)|(have e_:=(Kd.b_A i_L.out).1;omega))
  obtain ⟨ua140_1,uc140_1,rfl,ul140_1,ge140_1⟩:=h_N hMe140
  have hv140_1:=hcc140 1 _ rfl
  rw [c_8 _ _ 1 (by omega)] at hv140_1
  replace hv140_1:=Option.some.inj (hv140_1.symm.trans k_W)
  injection hv140_1 with hva_ hvn_ hvc_
  rw [hva_] at ge140_1
  rw [hvc_] at ul140_1
  have HL140_1:=a_e.mk (show Kd.V k65 65 _ w.heap.size _ _ ((a_o t137 (ji38)).f1) from Kd.V_mk ul140_1 ge140_1)
  clear hva_ hvn_ hvc_ ge140_1 ul140_1 hcc140 hce140
  have t_w:=a_e.mk p_5
  have B_o:=a_e.mk p_4
  clear p_5 p_4
  replace p140:=eq_true p140
  replace q140:=eq_true q140
  refine d_H (n:=13) (S:=fun w' => w'.cell? ⟨b_8,0,none⟩ = some (.int .i64 a1_0) ∧ w'.cell? ⟨b_8,1,none⟩ = some (.slice A1_1 l1_1.length c1_1) ∧ w'.cell? (ad140.add (((ji38)).toNat * 2)) = some (.int .i64 ((a_o t137 (ji38)).f0)) ∧ w'.cell? ⟨(ad140.add (((ji38)).toNat * 2)).block,(ad140.add (((ji38)).toNat * 2)).off + 1,none⟩ = some (.slice A140_1 ((a_o t137 (ji38)).f1).length c140_1)) (ds:=[]) Z4_ (by kernel_rfl) rfl rfl ⟨(a_a b_M.out 0).trans rfl,(a_a b_M.out 1).trans rfl,m_Y,k_W⟩ (fun hHeld => ?_);refine b_Q a_Y.tab7 a_Y.n_V (fun HT_ HW_ => ?_)
  generalize w35.drew = w41 at b_o b_Z i_L b_E b_M b_3 HB HL140_1 t_w m_Y k_W hHeld ⊢
  refine a_y (i:=0) (N:=some 30) (v:=?_) (a':=?_) Z10_ rfl rfl (a_n HT_.out (by kernel_rfl)) (fun _ _ _ h => h) (Or.inl ⟨by rfl,?_⟩) ?_ ?_
  rotate_left
  ·intro w'
   go_simp
   with_reducible rfl
  rotate_left
  ·simp only [Act.put,sa_,sb_,sc_,a_r,a_s]
   rfl
  refine a_y (i:=1) (N:=some 31) (v:=?_) (a':=?_) #[T_,T_,F_,F_,F_,F_,F_,F_,F_,F_,F_,F_,F_] rfl rfl (a_n HT_.out (by kernel_rfl)) (fun _ _ _ h => h) (Or.inl ⟨by rfl,?_⟩) ?_ ?_
  rotate_left
  ·intro w'
   go_simp
   with_reducible rfl
  rotate_left
  ·simp only [Act.put,sa_,sb_,sc_,a_r,a_s]
   rfl
  refine a_y (i:=2) (N:=some 32) (v:=?_) (a':=?_) #[T_,T_,T_,F_,F_,F_,F_,F_,F_,F_,F_,F_,F_] rfl rfl (a_n HT_.out (by kernel_rfl)) (fun _ _ _ h => h) (Or.inl ⟨by rfl,?_⟩) ?_ ?_
  rotate_left
  ·intro w'
   go_simp
   with_reducible rfl
  rotate_left
  ·simp only [Act.put,sa_,sb_,sc_,a_r,a_s]
   rfl
  refine a_y (i:=3) (N:=some 33) (v:=?_) (a':=?_) #[T_,T_,T_,T_,F_,F_,F_,F_,F_,F_,F_,F_,F_] rfl rfl (a_n HT_.out (by kernel_rfl)) (fun _ _ _ h => h) (Or.inl ⟨by rfl,?_⟩) ?_ ?_
  rotate_left
  ·intro w'
   go_simp
   with_reducible rfl
  rotate_left
  ·simp only [Act.put,sa_,sb_,sc_,a_r,a_s]
   rfl
  refine a_y (i:=4) (N:=some 34) (v:=?_) (a':=?_) #[T_,T_,T_,T_,T_,F_,F_,F_,F_,F_,F_,F_,F_] rfl rfl (a_n HT_.out (by kernel_rfl)) (fun _ _ _ h => h) (Or.inl ⟨by rfl,?_⟩) ?_ ?_
  rotate_left
  ·intro w'
   go_simp
   with_reducible rfl
  rotate_left
  ·simp only [Act.put,sa_,sb_,sc_,a_r,a_s]
   rfl
  refine a_y (i:=5) (N:=some 35) (v:=?_) (a':=?_) #[T_,T_,T_,T_,T_,T_,F_,F_,F_,F_,F_,F_,F_] rfl rfl (a_n HT_.out (by kernel_rfl)) (fun _ _ _ h => h) (Or.inl ⟨by rfl,?_⟩) ?_ ?_
  rotate_left
  ·intro w'
   go_simp
   with_reducible rfl
  rotate_left
  ·simp only [Act.put,sa_,sb_,sc_,a_r,a_s]
   rfl
  refine a_y (i:=6) (N:=some 36) (v:=?_) (a':=?_) Z41_ rfl rfl (a_n HT_.out (by kernel_rfl)) (fun _ _ _ h => h) (Or.inl ⟨by rfl,?_⟩) ?_ ?_
  rotate_left
  ·intro w'
   go_simp
   with_reducible rfl
  rotate_left
  ·simp only [Act.put,sa_,sb_,sc_,a_r,a_s]
   rfl
  refine a_y (i:=7) (N:=some 37) (v:=?_) (a':=?_) Z47_ rfl rfl (a_n HT_.out (by kernel_rfl)) (fun _ _ _ h => h) (Or.inl ⟨by rfl,?_⟩) ?_ ?_
  rotate_left
  ·intro w'
   go_simp
   with_reducible rfl
  rotate_left
  ·simp only [Act.put,sa_,sb_,sc_,a_r,a_s]
   rfl
  refine a_y (i:=9) (N:=some 39) (v:=?_) (a':=?_) #[T_,T_,T_,T_,T_,T_,T_,T_,F_,T_,F_,F_,F_] rfl rfl (a_n HT_.out (by kernel_rfl)) (fun _ _ _ h => h) (Or.inl ⟨by rfl,?_⟩) ?_ ?_
  rotate_left
  ·intro w'
   go_simp
   with_reducible rfl
  rotate_left
  ·simp only [Act.put,sa_,sb_,sc_,a_r,a_s]
   rfl
  refine b_m (i:=8) (N:=some 38) (v:=?_) (a':=?_) Z61_ rfl rfl (a_L HT_.out HW_.out (by kernel_rfl)) (fun _ _ _ h => h) (Or.inl ⟨by rfl,?_⟩) hHeld ?_ ?_
  rotate_left
  ·rintro w' ⟨s0,s1,s2,s3⟩
   go_simp
   with_reducible rfl
  rotate_left
  ·simp only [Act.put,sa_,sb_,sc_,a_r,a_s]
   rfl
  refine b_m (i:=10) (N:=some 40) (v:=?_) (a':=?_) Z67_ rfl rfl (a_L HT_.out HW_.out (by kernel_rfl)) (fun _ _ _ h => h) (Or.inl ⟨by rfl,?_⟩) hHeld ?_ ?_
  rotate_left
  ·rintro w' ⟨s0,s1,s2,s3⟩
   go_simp
   with_reducible rfl
  rotate_left
  ·simp only [Act.put,sa_,sb_,sc_,a_r,a_s]
   rfl
  refine a_y (i:=11) (N:=some 41) (v:=?_) (a':=?_) Z73_ rfl rfl (a_n HT_.out (by kernel_rfl)) (fun _ _ _ h => h) (Or.inl ⟨by rfl,?_⟩) ?_ ?_
  rotate_left
  ·intro w'
   go_simp
   with_reducible rfl
  rotate_left
  ·simp only [Act.put,sa_,sb_,sc_,a_r,a_s]
   rfl
  refine a_y (i:=12) (N:=some 42) (v:=?_) (a':=?_) s_b rfl rfl (a_n HT_.out (by kernel_rfl)) (fun _ _ _ h => h) (Or.inl ⟨by rfl,?_⟩) ?_ ?_
  rotate_left
  ·intro w'
   go_simp
   with_reducible rfl
  rotate_left
  ·simp only [Act.put,sa_,sb_,sc_,a_r,a_s]
   rfl
  refine e_T (c_u HT_.out (by kernel_rfl)) ?_
  try go_wp2
  go_meet
  case rel => exact ⟨_,((((a_o t137 (ji38)).f0) == a1_0)),(by first|rfl|(simp;done)|(simp only [← hji38] <;> (first|rfl|simp))|(simp [*];done)),H',⟨by first|omega|exact Nat.le_refl _⟩,⟨by (with_reducible repeat (first|apply Kd.a_R|apply Kd.a_S|apply Kd.a_Z));exact i_L.out⟩,⟨by (with_reducible repeat (first|apply Kd.a_Q|apply Kd.a_O|apply Kd.a_W));exact Kd.b_X b_o.out (fun _ hk => ⟨hk.1.1.1.1,⟨hk.2,⟨hk.1.1.1.2,⟨hk.1.1.2,hk.1.2⟩⟩⟩⟩)⟩,⟨by (with_reducible repeat (first|apply Kd.a_Q|apply Kd.a_O|apply Kd.a_W));exact Kd.b_X b_Z.out (fun _ hk => ⟨hk.1.1.1.1,⟨hk.2,⟨hk.1.1.1.2,⟨hk.1.1.2,hk.1.2⟩⟩⟩⟩)⟩,⟨by (with_reducible repeat (first|refine a_j ?_ _|refine a_k ?_|refine a_i ?_ _));exact b_E.out⟩,⟨by (with_reducible repeat (first|refine a_j ?_ _|refine a_k ?_|refine a_i ?_ _));exact b_M.out⟩,⟨by (with_reducible repeat (first|refine a_j ?_ _|refine a_k ?_|refine a_i ?_ _));exact b_3.out⟩,⟨by repeat (first|(with_reducible first|exact HB.out|apply a_g|apply a_f|apply a_h|refine a_d ?_ c_2.out|refine a_d ?_ d_0.out|refine a_d ?_ e_8.out)|exact HB.out)⟩⟩
 case rest =>
  clear HC22
  try clear c1
  try clear p1
  try clear q1
  try clear hx1
  try clear c2
  try clear p2
  try clear c3
  try clear c4
  try clear c4b0
  try clear c4b1
  try clear c6
  try clear p6
  try clear c7
  try clear c7b0
  try clear c10
  try clear c11
  try clear c12
  try clear c14
  try clear p14
  try clear q14
  try clear hx14
  try clear c15
  try clear c24
  try clear c25
  try clear c26
  try clear c27
  try clear c30
  try clear c37
  try clear c37b0
  try clear c37b1
  try clear c39
  try clear c39b0
  try clear c40
  try clear c40b0
  try clear g_d
  try clear g_e
  try clear h_d
  try clear h_e
  try clear k_S
  try clear k_T
  try clear h_h
  try clear h_i
  try clear k_Q
  try clear m_K
  try clear i_o
  try clear i_p
  try clear m_M
  try clear m_N
  try clear m_Q
  try clear m_R
  try clear m_U
  try clear m_V
  try clear g_f
  try clear g_g
  try clear h_f
  try clear h_g
  try clear k_U
  try clear k_V
  try clear h_j
  try clear h_k
  try clear k_R
  try clear m_L
  try clear i_q
  try clear i_r
  try clear m_O
  try clear m_P
  try clear m_S
  try clear m_T
  try clear m_W
  try clear m_X
  try clear m_Y
  try clear k_W
  try clear p140
  try clear q140
  obtain ⟨kq,x42_21,rfl,HA,HJ21,HO_6,e_E,d_I,b_E,b_M,b_3,HB⟩:=hcut
  cases kq with
  | zero => exact absurd HA.out (by simp [a_Y.j0])
  | succ kj21 =>
   have H:=HA.out
   clear HA
   simp only [a_Y.j0] at H
   by_cases c43 : x42_21 = true
   rotate_left
   ·replace c43:=Bool.eq_false_iff.mpr c43
    subst c43
    have H1 : (if (t137.length : Int) = 2000 then (some (([] : List (S27)),0,6)) else (if t137.length < 4398046511104 then (some ((t137 ++ [(⟨a1_0,l1_1⟩ : S27)]),a1_0,0)) else (none))) = some (r1,r2,r3):=by rw [if_neg (show ¬ (false = true) by decide)] at H;exact H
    clear H
    have H:=H1
    clear H1
    by_cases c59 : (t137.length : Int) = 2000
    ·rw [if_pos c59] at H
     have c59b0 : ((t137.length : Int) == 2000) = true:=beq_iff_eq.mpr c59
     have c59b1 : ((t137.length : Int) != 2000) = false:=bne_eq_false_iff_eq.mpr c59
     clear c59
     simp only [Option.some.injEq,Prod.mk.injEq] at H
     obtain ⟨rfl,rfl,rfl⟩:=H
     have B_p:=d_W.out
     have B_q:=d_V.out
     have w_w:=d_X.out
     have w_x:=c_h.out
     have B_r : wc.cell? ⟨b_K,0,none⟩ = some (.slice none 0 0):=(a_a b_3.out 0).trans rfl
     have B_s : wc.cell? ⟨b_K,1,none⟩ = some (.int .i64 0):=(a_a b_3.out 1).trans rfl
     have B_t:=a_b b_3.out 0
     have B_u:=a_b b_3.out 1
     go_wp2
     refine bodyPost_ret (c_o rfl _ _ b_K 24 #[.slice none 0 0,.int .i64 0] (0,0) _ rfl (by (with_reducible repeat (first|refine a_j ?_ _|refine a_k ?_|refine a_i ?_ _));refine a_J (cs:=#[.slice none 0 0,.int .i64 0]) ?_ 1 _ rfl;(with_reducible repeat (first|refine a_j ?_ _|refine a_k ?_|refine a_i ?_ _));refine a_J (cs:=#[.slice none 0 0,.int .i64 0]) ?_ 0 _ rfl;(with_reducible repeat (first|refine a_j ?_ _|refine a_k ?_|refine a_i ?_ _));exact b_3.out) Try.underlying24 rfl (by kernel_rfl)) rfl ?_
     exact ⟨_,by first|rfl|(simp [a_w,a_x] <;> rfl)|(simp [*, a_w,a_x] <;> rfl),by first|exact Kd.k_l _ _ _ _ _|exact Kd.i_U _ _ _ _ _|exact Kd.h_O _ _ _ _ _|exact Kd.k_e _ _ _ _ _|exact Kd.i_b _ _ _ _ _,by repeat (first|(with_reducible first|exact HB.out|apply a_g|apply a_f|apply a_h|refine a_d ?_ c_2.out|refine a_d ?_ d_0.out|refine a_d ?_ e_8.out)|exact HB.out)⟩
    rw [if_neg c59] at H
    have c59b0 : ((t137.length : Int) == 2000) = false:=beq_eq_false_iff_ne.mpr c59
    have c59b1 : ((t137.length : Int) != 2000) = true:=bne_iff_ne.mpr c59
    by_cases c63 : t137.length < 4398046511104
    rotate_left
    ·rw [if_neg c63] at H
     exact absurd H (by simp)
    rw [if_pos c63] at H
    have LMc63:=a_e.mk c63
    clear c63
    obtain ⟨y147,hy147⟩ : ∃ y_ : List (S27),y_ = (t137 ++ [(⟨a1_0,l1_1⟩ : S27)]):=⟨_,rfl⟩
    replace H : (some (y147,a1_0,0)) = some (r1,r2,r3):=by first|(rw [hy147];with_reducible exact H)|(have H2_:=(Option.bind_some _ _).symm.trans H;rw [hy147];with_reducible exact H2_)|(have H2_:=(Option.bind_some _ _).symm.trans H;with_reducible exact H2_)|with_reducible exact H|(rw [hy147];exact H)|exact H
    have Ny147:=a_e.mk hy147
    clear hy147
    simp only [Option.some.injEq,Prod.mk.injEq] at H
    obtain ⟨rfl,rfl,rfl⟩:=H
    try go_wp2
    replace HO_6:=a_e.mk (Kd.a_Z HO_6.out)
    replace e_E:=a_e.mk (Kd.a_W e_E.out)
    replace d_I:=a_e.mk (Kd.a_W d_I.out)
    replace b_E:=a_e.mk (a_k b_E.out)
    replace b_M:=a_e.mk (a_k b_M.out)
    replace b_3:=a_e.mk (a_k b_3.out)
    replace HB:=a_e.mk (a_h HB.out)
    refine d_H (n:=9) (S:=fun w' => w'.cell? ⟨b_8,0,none⟩ = some (.int .i64 a1_0) ∧ w'.cell? ⟨b_8,1,none⟩ = some (.slice A1_1 l1_1.length c1_1)) (ds:=[]) Z5_ (by kernel_rfl) rfl rfl ⟨(a_a b_M.out 0).trans rfl,(a_a b_M.out 1).trans rfl⟩ (fun hHeld => ?_);refine b_Q a_Y.v_E a_Y.r_L (fun HT_ HW_ => ?_)
    generalize wc.drew = w64 at HO_6 e_E d_I b_E b_M b_3 HB hHeld ⊢
    refine a_y (i:=0) (N:=some 51) (v:=?_) (a':=?_) Z11_ rfl rfl (a_n HT_.out (by kernel_rfl)) (fun _ _ _ h => h) (Or.inl ⟨by rfl,?_⟩) ?_ ?_
    rotate_left
    ·intro w'
     go_simp
     with_reducible rfl
    rotate_left
    ·simp only [Act.put,sa_,sb_,sc_,a_r,a_s]
     rfl
    refine a_y (i:=4) (N:=some 55) (v:=?_) (a':=?_) Z12_ rfl rfl (a_n HT_.out (by kernel_rfl)) (fun _ _ _ h => h) (Or.inl ⟨by rfl,?_⟩) ?_ ?_
    rotate_left
    ·intro w'
     go_simp
     with_reducible rfl
    rotate_left
    ·simp only [Act.put,sa_,sb_,sc_,a_r,a_s]
     rfl
    refine b_m (i:=1) (N:=some 52) (v:=?_) (a':=?_) Z17_ rfl rfl (a_L HT_.out HW_.out (by kernel_rfl)) (fun _ _ _ h => h) (Or.inl ⟨by rfl,?_⟩) hHeld ?_ ?_
    rotate_left
    ·rintro w' ⟨s0,s1⟩
     go_simp
     with_reducible rfl
    rotate_left
    ·simp only [Act.put,sa_,sb_,sc_,a_r,a_s]
     rfl
    refine b_m (i:=5) (N:=some 56) (v:=?_) (a':=?_) Z18_ rfl rfl (a_L HT_.out HW_.out (by kernel_rfl)) (fun _ _ _ h => h) (Or.inl ⟨by rfl,?_⟩) hHeld ?_ ?_
    rotate_left
    ·rintro w' ⟨s0,s1⟩
     go_simp
     with_reducible rfl
    rotate_left
    ·simp only [Act.put,sa_,sb_,sc_,a_r,a_s]
     rfl
    refine one_ (i:=2) (N:=some 53) Z23_ rfl rfl (c_e HT_.out (by kernel_rfl)) (by decide) (fun K hK => ?_)
    refine n_B (w1:=?_) (v:=?_) (by rfl) rfl ?_ ?_
    rotate_left 2
    ·go_simp
     constructor
     ·rfl
     rfl
    refine hK.out _ _ ⟨(a_a (a_i b_M.out _) 0).trans rfl,(a_a (a_i b_M.out _) 1).trans rfl⟩ (fun hHeld => ?_)
    clear hK K
    refine d_U (a':=?_) ?_ ?_
    rotate_left
    ·show Act.put _ (some 53) _ = _
     simp only [Act.put,sa_,sb_,sc_,a_r,a_s]
     rfl
    refine one_ (i:=3) (N:=some 54) Z36_ rfl rfl (c_e HT_.out (by kernel_rfl)) (by decide) (fun K hK => ?_)
    refine Kd.g_a k27 (w0:=w) w.heap.size (by rfl) (.tmp 51) (.tmp 53) 22 27 (.agg #[(.int .i64 0),(.slice none 0 0)]) 32 rfl Try.underlying22 i_E rfl (by decide) (by omega) (.slice Ao36 t137.length co36) t137 (⟨a1_0,l1_1⟩ : S27) [.int .i64 a1_0,.slice A1_1 l1_1.length c1_1] (fun k_ => ((P0_0_ k_ ∨ P1_1_ k_) ∨ w.heap.size ≤ k_) ∧ k_ ≠ c_c ∧ k_ ≠ b_8 ∧ k_ ≠ b_K) (fun k_ => ((fun k_ => ((P0_0_ k_ ∨ P1_1_ k_) ∨ w.heap.size ≤ k_) ∧ k_ ≠ c_c ∧ k_ ≠ b_8 ∧ k_ ≠ b_K)) k_ ∧ some k_ ≠ (.slice Ao36 t137.length co36 : Value).ownBlock) rfl rfl ?aP (fun _ hk => hk) ?aF ?aO ?aB ?aS ?aL ?_
    (case aP => exact (k_C _ _ (⟨a1_0,l1_1⟩ : S27) (Kd.b_n (Kd.b_X (ok':=(fun k_ => ((fun k_ => ((P0_0_ k_ ∨ P1_1_ k_) ∨ w.heap.size ≤ k_) ∧ k_ ≠ c_c ∧ k_ ≠ b_8 ∧ k_ ≠ b_K)) k_ ∧ some k_ ≠ (.slice Ao36 t137.length co36 : Value).ownBlock)) (d_I.out) (fun k_ hk => ⟨⟨hk.1,⟨hk.2.2.1,⟨hk.2.2.2.1,hk.2.2.2.2⟩⟩⟩,(by first|exact hk.2.1|exact own_ne hk.2.1)⟩))).2.1 (Kd.V_F (Kd.b_X (ok':=(fun k_ => ((fun k_ => ((P0_0_ k_ ∨ P1_1_ k_) ∨ w.heap.size ≤ k_) ∧ k_ ≠ c_c ∧ k_ ≠ b_8 ∧ k_ ≠ b_K)) k_ ∧ some k_ ≠ (.slice Ao36 t137.length co36 : Value).ownBlock)) (d_I.out) (fun k_ hk => ⟨⟨hk.1,⟨hk.2.2.1,⟨hk.2.2.2.1,hk.2.2.2.2⟩⟩⟩,(by first|exact hk.2.1|exact own_ne hk.2.1)⟩)))))
    (case aB => exact (by repeat (first|(with_reducible first|exact HB.out|apply a_g|apply a_f|apply a_h|refine a_d ?_ c_2.out|refine a_d ?_ d_0.out|refine a_d ?_ e_8.out)|exact HB.out)))
    (case aF => exact (fun k_ hk => ⟨(.inr (Nat.le_trans (a_p (by repeat (first|(with_reducible first|exact HB.out|apply a_g|apply a_f|apply a_h|refine a_d ?_ c_2.out|refine a_d ?_ d_0.out|refine a_d ?_ e_8.out)|exact HB.out))) hk)),Kd.d_g (g:=c_c) (o:=.cells #[.slice A0_0 l0_0.length c0_0,.int .i64 a0_1] 24 (0,0)) (bup_ b_E.out) k_ hk,Kd.d_g (g:=b_8) (o:=.cells #[.int .i64 a1_0,.slice A1_1 l1_1.length c1_1] 27 (0,0)) (bup_ b_M.out) k_ hk,Kd.d_g (g:=b_K) (o:=.cells #[.slice none 0 0,.int .i64 0] 24 (0,0)) (bup_ b_3.out) k_ hk⟩))
    (case aO => exact (by (with_reducible repeat (first|apply Kd.a_R|apply Kd.a_S|apply Kd.a_Z));exact HO_6.out))
    (case aS => exact (a_p (by repeat (first|(with_reducible first|exact HB.out|apply a_g|apply a_f|apply a_h|refine a_d ?_ c_2.out|refine a_d ?_ d_0.out|refine a_d ?_ e_8.out)|exact HB.out))))
    (case aL => have:=LMc63.out;omega)
    intro v148 w65 ho hb hg hat
    rw [← Ny147.out] at ho
    have w_y:=a_e.mk (ho)
    replace e_E:=a_e.mk (Kd.e_S (ok:=(fun k_ => ((P0_0_ k_ ∨ P1_1_ k_) ∨ w.heap.size ≤ k_) ∧ k_ ≠ c_c ∧ k_ ≠ b_8 ∧ k_ ≠ b_K)) (by (with_reducible repeat (first|apply Kd.a_Q|apply Kd.a_O|apply Kd.a_W));exact Kd.b_X e_E.out (fun _ hk => ⟨⟨hk.1,⟨hk.2.2.1,⟨hk.2.2.2.1,hk.2.2.2.2⟩⟩⟩,(by first|exact hk.2.1|exact own_ne hk.2.1)⟩)) hg hat)
    replace d_I:=a_e.mk (Kd.e_S (ok:=(fun k_ => ((P0_0_ k_ ∨ P1_1_ k_) ∨ w.heap.size ≤ k_) ∧ k_ ≠ c_c ∧ k_ ≠ b_8 ∧ k_ ≠ b_K)) (by (with_reducible repeat (first|apply Kd.a_Q|apply Kd.a_O|apply Kd.a_W));exact Kd.b_X d_I.out (fun _ hk => ⟨⟨hk.1,⟨hk.2.2.1,⟨hk.2.2.2.1,hk.2.2.2.2⟩⟩⟩,(by first|exact hk.2.1|exact own_ne hk.2.1)⟩)) hg hat)
    replace b_E:=a_e.mk (c_n (g:=c_c) (o:=.cells #[.slice A0_0 l0_0.length c0_0,.int .i64 a0_1] 24 (0,0)) (bup_ b_E.out) hg (Kd.N_ne HO_6.out b_E.out (by decide)))
    replace b_M:=a_e.mk (c_n (g:=b_8) (o:=.cells #[.int .i64 a1_0,.slice A1_1 l1_1.length c1_1] 27 (0,0)) (bup_ b_M.out) hg (Kd.n_z HO_6.out (fun _ hk => hk.2.2.1)))
    replace b_3:=a_e.mk (c_n (g:=b_K) (o:=.cells #[.slice none 0 0,.int .i64 0] 24 (0,0)) (bup_ b_3.out) hg (Kd.N_ne HO_6.out b_3.out (by decide)))
    replace HB:=a_e.mk (hb)
    clear HO_6 ho hb hg hat
    obtain ⟨Ao66,co66,eo66⟩:=Kd.f_A w_y.out
    (first|subst eo66|(injection eo66 with f1_ f2_ f3_;have f4_:=f1_.symm;have f5_:=f3_.symm;clear f1_ f2_ f3_;subst f4_;subst f5_))
    refine hK.out _ _ ⟨(a_a b_M.out 0).trans rfl,(a_a b_M.out 1).trans rfl⟩ (fun hHeld => ?_)
    clear hK K
    refine d_U (a':=?_) ?_ ?_
    rotate_left
    ·show Act.put _ (some 54) _ = _
     simp only [Act.put,sa_,sb_,sc_,a_r,a_s]
     rfl
    refine a_y (i:=6) (N:=some 57) (v:=?_) (a':=?_) Z42_ rfl rfl (a_n HT_.out (by kernel_rfl)) (fun _ _ _ h => h) (Or.inl ⟨by rfl,?_⟩) ?_ ?_
    rotate_left
    ·intro w'
     go_simp
     with_reducible rfl
    rotate_left
    ·simp only [Act.put,sa_,sb_,sc_,a_r,a_s]
     rfl
    refine one_ (i:=7) (N:=none) Z51_ rfl rfl (c_e HT_.out (by kernel_rfl)) (by decide) (fun K hK => ?_)
    have hs67 : w65.cell? ⟨b_K,0,none⟩ = some (.slice none 0 0):=(a_a b_3.out 0).trans rfl
    have hfs67:=a_b b_3.out 0
    have hns67_0:=d_V.out
    have hns67_1:=c_h.out
    have hms67_0:=d_W.out
    have hms67_1:=d_X.out
    have hs68 : w65.cell? ⟨b_K,1,none⟩ = some (.int .i64 0):=(a_a b_3.out 1).trans rfl
    have hfs68:=a_b b_3.out 1
    have hns68_0:=d_V.out
    have hns68_1:=c_h.out
    have hms68_0:=d_W.out
    have hms68_1:=d_X.out
    refine q_P (w1:=?_) (by rfl) rfl ?_ ?_
    rotate_left
    ·go_simp
     rfl
    refine hK.out _ _ ⟨((cell_far (p:=⟨b_K,_,none⟩) c_h.out _).trans (((cell_far (p:=⟨b_K,_,none⟩) c_h.out _).trans (hHeld.1)))),((cell_far (p:=⟨b_K,_,none⟩) c_h.out _).trans (((cell_far (p:=⟨b_K,_,none⟩) c_h.out _).trans (hHeld.2))))⟩ (fun hHeld => ?_)
    clear hK K
    refine a_y (i:=8) (N:=some 5) (v:=?_) (a':=?_) o_y rfl rfl (a_n HT_.out (by kernel_rfl)) (fun _ _ _ h => h) (Or.inl ⟨by rfl,?_⟩) ?_ ?_
    rotate_left
    ·intro w'
     go_simp
     with_reducible rfl
    rotate_left
    ·simp only [Act.put,sa_,sb_,sc_,a_r,a_s]
     rfl
    refine e_T (c_u HT_.out (by kernel_rfl)) ?_
    try go_wp2
    refine bodyPost_ret (c_o rfl _ _ b_K 24 #[.slice Ao66 y147.length co66,.int .i64 a1_0] (0,0) _ rfl (by (with_reducible repeat (first|refine a_j ?_ _|refine a_k ?_|refine a_i ?_ _));refine a_J (cs:=#[.slice Ao66 y147.length co66,.int .i64 0]) ?_ 1 _ rfl;(with_reducible repeat (first|refine a_j ?_ _|refine a_k ?_|refine a_i ?_ _));refine a_J (cs:=#[.slice none 0 0,.int .i64 0]) ?_ 0 _ rfl;(with_reducible repeat (first|refine a_j ?_ _|refine a_k ?_|refine a_i ?_ _));exact b_3.out) Try.underlying24 rfl (by kernel_rfl)) rfl ?_
    exact ⟨_,by first|rfl|(simp [a_w,a_x] <;> rfl)|(simp [*, a_w,a_x] <;> rfl),by (with_reducible repeat (first|apply Kd.a_R|apply Kd.a_S|apply Kd.a_Z));exact Kd.b_P (Kd.d_E (p:=⟨b_K,1,none⟩) (Kd.d_E (p:=⟨b_K,0,none⟩) (Kd.b_P w_y.out (fun k_ hk => (⟨hk,hk.2.2.2⟩ : _ ∧ k_ ≠ b_K))) (fun _ hk => hk.2) (.slice Ao66 y147.length co66)) (fun _ hk => hk.2) (.int .i64 a1_0)) (fun _ hk => hk.1.1),by repeat (first|(with_reducible first|exact HB.out|apply a_g|apply a_f|apply a_h|refine a_d ?_ c_2.out|refine a_d ?_ d_0.out|refine a_d ?_ e_8.out)|exact HB.out)⟩
   subst c43
   have H1 : (if 0 ≤ (wrap64 ((t137.length : Int) - 1)) then (if (wrap64 ((t137.length : Int) - 1)) ≤ (t137.length : Int) then ((some (t137.take ((wrap64 ((t137.length : Int) - 1)) : Int).toNat : List (S27))).bind fun y141 => (if (y141.length : Int) = 2000 then (some (([] : List (S27)),0,6)) else (if y141.length < 4398046511104 then (some ((y141 ++ [(⟨a1_0,l1_1⟩ : S27)]),a1_0,0)) else (none)))) else (none)) else (none)) = some (r1,r2,r3):=by rw [if_pos rfl] at H;exact H
   clear H
   have H:=H1
   clear H1
   obtain ⟨ji44,hji44⟩ : ∃ j_ : Int,(wrap64 ((t137.length : Int) - 1)) = j_:=⟨_,rfl⟩
   replace H : (if 0 ≤ (ji44) then (if (ji44) ≤ (t137.length : Int) then ((some (t137.take ((ji44) : Int).toNat : List (S27))).bind fun y141 => (if (y141.length : Int) = 2000 then (some (([] : List (S27)),0,6)) else (if y141.length < 4398046511104 then (some ((y141 ++ [(⟨a1_0,l1_1⟩ : S27)]),a1_0,0)) else (none)))) else (none)) else (none)) = some (r1,r2,r3):=by first|(rw [hji44] at H;exact H)|(simp only [hji44] at H ⊢; exact H)
   have hji44w : (IntKind.i64.wrap ((t137.length : Int) - 1)) = ji44:=(a_r _).trans hji44
   by_cases c45 : 0 ≤ (ji44)
   rotate_left
   ·rw [if_neg c45] at H
    exact absurd H (by simp)
   rw [if_pos c45] at H
   have c45b0:=eq_true c45
   have c45b1 : decide (0 ≤ (ji44)) = true:=decide_eq_true c45
   clear c45
   by_cases c46 : (ji44) ≤ (t137.length : Int)
   rotate_left
   ·rw [if_neg c46] at H
    exact absurd H (by simp)
   rw [if_pos c46] at H
   have c46b0:=eq_true c46
   have c46b1 : decide ((ji44) ≤ (t137.length : Int)) = true:=decide_eq_true c46
   clear c46
   obtain ⟨y141,hy141⟩ : ∃ y_ : List (S27),y_ = (t137.take ((ji44) : Int).toNat):=⟨_,rfl⟩
   replace H : (if (y141.length : Int) = 2000 then (some (([] : List (S27)),0,6)) else (if y141.length < 4398046511104 then (some ((y141 ++ [(⟨a1_0,l1_1⟩ : S27)]),a1_0,0)) else (none))) = some (r1,r2,r3):=by first|(rw [hy141];with_reducible exact H)|(have H2_:=(Option.bind_some _ _).symm.trans H;rw [hy141];with_reducible exact H2_)|(have H2_:=(Option.bind_some _ _).symm.trans H;with_reducible exact H2_)|with_reducible exact H|(rw [hy141];exact H)|exact H
   have Ny141:=a_e.mk hy141
   clear hy141
   by_cases c47 : (y141.length : Int) = 2000
   ·rw [if_pos c47] at H
    have c47b0 : ((y141.length : Int) == 2000) = true:=beq_iff_eq.mpr c47
    have c47b1 : ((y141.length : Int) != 2000) = false:=bne_eq_false_iff_eq.mpr c47
    clear c47
    simp only [Option.some.injEq,Prod.mk.injEq] at H
    obtain ⟨rfl,rfl,rfl⟩:=H
    have q48 : ((ji44) : Int) ≤ ((t137.length : Int) : Int):=of_decide_eq_true (by first|(with_reducible assumption)|assumption)
    obtain ⟨i048,w_z,_,hsz48,_⟩:=info_parts i_E
    have hcut48:=r_Q (P:=Try.prog) 22 27 .i64 Try.underlying22 w_z Ao36 t137.length co36 (ji44) (of_decide_eq_true (by first|(with_reducible assumption)|assumption)) q48 (Kd.b_A HO_6.out).2.1
    have hr48:=Kd.r_M (m:=((ji44) : Int).toNat) HO_6.out (by omega)
    have hy48 : y141.length = ((ji44) : Int).toNat:=(by rw [Ny141.out,List.length_take];omega)
    rw [← Ny141.out] at hr48
    rw [← hy48] at hr48 hcut48
    clear hy48 w_z hsz48 HO_6
    have k_X:=a_e.mk hr48
    clear hr48
    replace q48:=eq_true q48
    have w_A:=d_W.out
    have w_B:=d_V.out
    have B_v:=d_X.out
    have B_w:=c_h.out
    have B_x : wc.cell? ⟨b_K,0,none⟩ = some (.slice none 0 0):=(a_a b_3.out 0).trans rfl
    have B_y : wc.cell? ⟨b_K,1,none⟩ = some (.int .i64 0):=(a_a b_3.out 1).trans rfl
    have B_z:=a_b b_3.out 0
    have B_A:=a_b b_3.out 1
    go_wp2
    refine bodyPost_ret (c_o rfl _ _ b_K 24 #[.slice none 0 0,.int .i64 0] (0,0) _ rfl (by (with_reducible repeat (first|refine a_j ?_ _|refine a_k ?_|refine a_i ?_ _));refine a_J (cs:=#[.slice none 0 0,.int .i64 0]) ?_ 1 _ rfl;(with_reducible repeat (first|refine a_j ?_ _|refine a_k ?_|refine a_i ?_ _));refine a_J (cs:=#[.slice none 0 0,.int .i64 0]) ?_ 0 _ rfl;(with_reducible repeat (first|refine a_j ?_ _|refine a_k ?_|refine a_i ?_ _));exact b_3.out) Try.underlying24 rfl (by kernel_rfl)) rfl ?_
    exact ⟨_,by first|rfl|(simp [a_w,a_x] <;> rfl)|(simp only [← hji44];first|rfl|(simp [a_w,a_x] <;> rfl))|(simp [*, a_w,a_x] <;> rfl),by first|exact Kd.k_l _ _ _ _ _|exact Kd.i_U _ _ _ _ _|exact Kd.h_O _ _ _ _ _|exact Kd.k_e _ _ _ _ _|exact Kd.i_b _ _ _ _ _,by repeat (first|(with_reducible first|exact HB.out|apply a_g|apply a_f|apply a_h|refine a_d ?_ c_2.out|refine a_d ?_ d_0.out|refine a_d ?_ e_8.out)|exact HB.out)⟩
   rw [if_neg c47] at H
   have c47b0 : ((y141.length : Int) == 2000) = false:=beq_eq_false_iff_ne.mpr c47
   have c47b1 : ((y141.length : Int) != 2000) = true:=bne_iff_ne.mpr c47
   by_cases c52 : y141.length < 4398046511104
   rotate_left
   ·rw [if_neg c52] at H
    exact absurd H (by simp)
   rw [if_pos c52] at H
   have LMc52:=a_e.mk c52
   clear c52
   obtain ⟨y144,hy144⟩ : ∃ y_ : List (S27),y_ = (y141 ++ [(⟨a1_0,l1_1⟩ : S27)]):=⟨_,rfl⟩
   replace H : (some (y144,a1_0,0)) = some (r1,r2,r3):=by first|(rw [hy144];with_reducible exact H)|(have H2_:=(Option.bind_some _ _).symm.trans H;rw [hy144];with_reducible exact H2_)|(have H2_:=(Option.bind_some _ _).symm.trans H;with_reducible exact H2_)|with_reducible exact H|(rw [hy144];exact H)|exact H
   have Ny144:=a_e.mk hy144
   clear hy144
   simp only [Option.some.injEq,Prod.mk.injEq] at H
   obtain ⟨rfl,rfl,rfl⟩:=H
   have q53 : ((ji44) : Int) ≤ ((t137.length : Int) : Int):=of_decide_eq_true (by first|(with_reducible assumption)|assumption)
   obtain ⟨i053,w_C,_,hsz53,_⟩:=info_parts i_E
   have hcut53:=r_Q (P:=Try.prog) 22 27 .i64 Try.underlying22 w_C Ao36 t137.length co36 (ji44) (of_decide_eq_true (by first|(with_reducible assumption)|assumption)) q53 (Kd.b_A HO_6.out).2.1
   have hr53:=Kd.r_M (m:=((ji44) : Int).toNat) HO_6.out (by omega)
   have hy53 : y141.length = ((ji44) : Int).toNat:=(by rw [Ny141.out,List.length_take];omega)
   rw [← Ny141.out] at hr53
   rw [← hy53] at hr53 hcut53
   clear hy53 w_C hsz53 HO_6
   have k_X:=a_e.mk hr53
   clear hr53
   replace q53:=eq_true q53
   try go_wp2
   replace k_X:=a_e.mk (Kd.a_Z k_X.out)
   replace e_E:=a_e.mk (Kd.a_W e_E.out)
   replace d_I:=a_e.mk (Kd.a_W d_I.out)
   replace b_E:=a_e.mk (a_k b_E.out)
   replace b_M:=a_e.mk (a_k b_M.out)
   replace b_3:=a_e.mk (a_k b_3.out)
   replace HB:=a_e.mk (a_h HB.out)
   refine d_H (n:=9) (S:=fun w' => w'.cell? ⟨b_8,0,none⟩ = some (.int .i64 a1_0) ∧ w'.cell? ⟨b_8,1,none⟩ = some (.slice A1_1 l1_1.length c1_1)) (ds:=[]) Z5_ (by kernel_rfl) rfl rfl ⟨(a_a b_M.out 0).trans rfl,(a_a b_M.out 1).trans rfl⟩ (fun hHeld => ?_);refine b_Q a_Y.v_E a_Y.r_L (fun HT_ HW_ => ?_)
   generalize wc.drew = w54 at k_X e_E d_I b_E b_M b_3 HB hHeld ⊢
   refine a_y (i:=0) (N:=some 51) (v:=?_) (a':=?_) Z11_ rfl rfl (a_n HT_.out (by kernel_rfl)) (fun _ _ _ h => h) (Or.inl ⟨by rfl,?_⟩) ?_ ?_
   rotate_left
   ·intro w'
    go_simp
    with_reducible rfl
   rotate_left
   ·simp only [Act.put,sa_,sb_,sc_,a_r,a_s]
    rfl
   refine a_y (i:=4) (N:=some 55) (v:=?_) (a':=?_) Z12_ rfl rfl (a_n HT_.out (by kernel_rfl)) (fun _ _ _ h => h) (Or.inl ⟨by rfl,?_⟩) ?_ ?_
   rotate_left
   ·intro w'
    go_simp
    with_reducible rfl
   rotate_left
   ·simp only [Act.put,sa_,sb_,sc_,a_r,a_s]
    rfl
   refine b_m (i:=1) (N:=some 52) (v:=?_) (a':=?_) Z17_ rfl rfl (a_L HT_.out HW_.out (by kernel_rfl)) (fun _ _ _ h => h) (Or.inl ⟨by rfl,?_⟩) hHeld ?_ ?_
   rotate_left
   ·rintro w' ⟨s0,s1⟩
    go_simp
    with_reducible rfl
   rotate_left
   ·simp only [Act.put,sa_,sb_,sc_,a_r,a_s]
    rfl
   refine b_m (i:=5) (N:=some 56) (v:=?_) (a':=?_) Z18_ rfl rfl (a_L HT_.out HW_.out (by kernel_rfl)) (fun _ _ _ h => h) (Or.inl ⟨by rfl,?_⟩) hHeld ?_ ?_
   rotate_left
   ·rintro w' ⟨s0,s1⟩
    go_simp
    with_reducible rfl
   rotate_left
   ·simp only [Act.put,sa_,sb_,sc_,a_r,a_s]
    rfl
   refine one_ (i:=2) (N:=some 53) Z23_ rfl rfl (c_e HT_.out (by kernel_rfl)) (by decide) (fun K hK => ?_)
   refine n_B (w1:=?_) (v:=?_) (by rfl) rfl ?_ ?_
   rotate_left 2
   ·go_simp
    constructor
    ·rfl
    rfl
   refine hK.out _ _ ⟨(a_a (a_i b_M.out _) 0).trans rfl,(a_a (a_i b_M.out _) 1).trans rfl⟩ (fun hHeld => ?_)
   clear hK K
   refine d_U (a':=?_) ?_ ?_
   rotate_left
   ·show Act.put _ (some 53) _ = _
    simp only [Act.put,sa_,sb_,sc_,a_r,a_s]
    rfl
   refine one_ (i:=3) (N:=some 54) Z36_ rfl rfl (c_e HT_.out (by kernel_rfl)) (by decide) (fun K hK => ?_)
   refine Kd.g_a k27 (w0:=w) w.heap.size (by rfl) (.tmp 51) (.tmp 53) 22 27 (.agg #[(.int .i64 0),(.slice none 0 0)]) 32 rfl Try.underlying22 i_E rfl (by decide) (by omega) (.slice Ao36 y141.length co36) y141 (⟨a1_0,l1_1⟩ : S27) [.int .i64 a1_0,.slice A1_1 l1_1.length c1_1] (fun k_ => ((P0_0_ k_ ∨ P1_1_ k_) ∨ w.heap.size ≤ k_) ∧ k_ ≠ c_c ∧ k_ ≠ b_8 ∧ k_ ≠ b_K) (fun k_ => ((fun k_ => ((P0_0_ k_ ∨ P1_1_ k_) ∨ w.heap.size ≤ k_) ∧ k_ ≠ c_c ∧ k_ ≠ b_8 ∧ k_ ≠ b_K)) k_ ∧ some k_ ≠ (.slice Ao36 y141.length co36 : Value).ownBlock) rfl rfl ?aP (fun _ hk => hk) ?aF ?aO ?aB ?aS ?aL ?_
   (case aP => exact (k_C _ _ (⟨a1_0,l1_1⟩ : S27) (Kd.b_n (Kd.b_X (ok':=(fun k_ => ((fun k_ => ((P0_0_ k_ ∨ P1_1_ k_) ∨ w.heap.size ≤ k_) ∧ k_ ≠ c_c ∧ k_ ≠ b_8 ∧ k_ ≠ b_K)) k_ ∧ some k_ ≠ (.slice Ao36 y141.length co36 : Value).ownBlock)) (d_I.out) (fun k_ hk => ⟨⟨hk.1,⟨hk.2.2.1,⟨hk.2.2.2.1,hk.2.2.2.2⟩⟩⟩,(by first|exact hk.2.1|exact own_ne hk.2.1)⟩))).2.1 (Kd.V_F (Kd.b_X (ok':=(fun k_ => ((fun k_ => ((P0_0_ k_ ∨ P1_1_ k_) ∨ w.heap.size ≤ k_) ∧ k_ ≠ c_c ∧ k_ ≠ b_8 ∧ k_ ≠ b_K)) k_ ∧ some k_ ≠ (.slice Ao36 y141.length co36 : Value).ownBlock)) (d_I.out) (fun k_ hk => ⟨⟨hk.1,⟨hk.2.2.1,⟨hk.2.2.2.1,hk.2.2.2.2⟩⟩⟩,(by first|exact hk.2.1|exact own_ne hk.2.1)⟩)))))
   (case aB => exact (by repeat (first|(with_reducible first|exact HB.out|apply a_g|apply a_f|apply a_h|refine a_d ?_ c_2.out|refine a_d ?_ d_0.out|refine a_d ?_ e_8.out)|exact HB.out)))
   (case aF => exact (fun k_ hk => ⟨(.inr (Nat.le_trans (a_p (by repeat (first|(with_reducible first|exact HB.out|apply a_g|apply a_f|apply a_h|refine a_d ?_ c_2.out|refine a_d ?_ d_0.out|refine a_d ?_ e_8.out)|exact HB.out))) hk)),Kd.d_g (g:=c_c) (o:=.cells #[.slice A0_0 l0_0.length c0_0,.int .i64 a0_1] 24 (0,0)) (bup_ b_E.out) k_ hk,Kd.d_g (g:=b_8) (o:=.cells #[.int .i64 a1_0,.slice A1_1 l1_1.length c1_1] 27 (0,0)) (bup_ b_M.out) k_ hk,Kd.d_g (g:=b_K) (o:=.cells #[.slice none 0 0,.int .i64 0] 24 (0,0)) (bup_ b_3.out) k_ hk⟩))
   (case aO => exact (by (with_reducible repeat (first|apply Kd.a_R|apply Kd.a_S|apply Kd.a_Z));exact k_X.out))
   (case aS => exact (a_p (by repeat (first|(with_reducible first|exact HB.out|apply a_g|apply a_f|apply a_h|refine a_d ?_ c_2.out|refine a_d ?_ d_0.out|refine a_d ?_ e_8.out)|exact HB.out))))
   (case aL => have:=LMc52.out;omega)
   intro v145 w55 ho hb hg hat
   rw [← Ny144.out] at ho
   have w_D:=a_e.mk (ho)
   replace e_E:=a_e.mk (Kd.e_S (ok:=(fun k_ => ((P0_0_ k_ ∨ P1_1_ k_) ∨ w.heap.size ≤ k_) ∧ k_ ≠ c_c ∧ k_ ≠ b_8 ∧ k_ ≠ b_K)) (by (with_reducible repeat (first|apply Kd.a_Q|apply Kd.a_O|apply Kd.a_W));exact Kd.b_X e_E.out (fun _ hk => ⟨⟨hk.1,⟨hk.2.2.1,⟨hk.2.2.2.1,hk.2.2.2.2⟩⟩⟩,(by first|exact hk.2.1|exact own_ne hk.2.1)⟩)) hg hat)
   replace d_I:=a_e.mk (Kd.e_S (ok:=(fun k_ => ((P0_0_ k_ ∨ P1_1_ k_) ∨ w.heap.size ≤ k_) ∧ k_ ≠ c_c ∧ k_ ≠ b_8 ∧ k_ ≠ b_K)) (by (with_reducible repeat (first|apply Kd.a_Q|apply Kd.a_O|apply Kd.a_W));exact Kd.b_X d_I.out (fun _ hk => ⟨⟨hk.1,⟨hk.2.2.1,⟨hk.2.2.2.1,hk.2.2.2.2⟩⟩⟩,(by first|exact hk.2.1|exact own_ne hk.2.1)⟩)) hg hat)
   replace b_E:=a_e.mk (c_n (g:=c_c) (o:=.cells #[.slice A0_0 l0_0.length c0_0,.int .i64 a0_1] 24 (0,0)) (bup_ b_E.out) hg (Kd.N_ne k_X.out b_E.out (by decide)))
   replace b_M:=a_e.mk (c_n (g:=b_8) (o:=.cells #[.int .i64 a1_0,.slice A1_1 l1_1.length c1_1] 27 (0,0)) (bup_ b_M.out) hg (Kd.n_z k_X.out (fun _ hk => hk.2.2.1)))
   replace b_3:=a_e.mk (c_n (g:=b_K) (o:=.cells #[.slice none 0 0,.int .i64 0] 24 (0,0)) (bup_ b_3.out) hg (Kd.N_ne k_X.out b_3.out (by decide)))
   replace HB:=a_e.mk (hb)
   clear k_X ho hb hg hat
   obtain ⟨Ao56,co56,eo56⟩:=Kd.f_A w_D.out
   (first|subst eo56|(injection eo56 with f1_ f2_ f3_;have f4_:=f1_.symm;have f5_:=f3_.symm;clear f1_ f2_ f3_;subst f4_;subst f5_))
   refine hK.out _ _ ⟨(a_a b_M.out 0).trans rfl,(a_a b_M.out 1).trans rfl⟩ (fun hHeld => ?_)
   clear hK K
   refine d_U (a':=?_) ?_ ?_
   rotate_left
   ·show Act.put _ (some 54) _ = _
    simp only [Act.put,sa_,sb_,sc_,a_r,a_s]
    rfl
   refine a_y (i:=6) (N:=some 57) (v:=?_) (a':=?_) Z42_ rfl rfl (a_n HT_.out (by kernel_rfl)) (fun _ _ _ h => h) (Or.inl ⟨by rfl,?_⟩) ?_ ?_
   rotate_left
   ·intro w'
    go_simp
    with_reducible rfl
   rotate_left
   ·simp only [Act.put,sa_,sb_,sc_,a_r,a_s]
    rfl
   refine one_ (i:=7) (N:=none) Z51_ rfl rfl (c_e HT_.out (by kernel_rfl)) (by decide) (fun K hK => ?_)
   have hs57 : w55.cell? ⟨b_K,0,none⟩ = some (.slice none 0 0):=(a_a b_3.out 0).trans rfl
   have hfs57:=a_b b_3.out 0
   have hns57_0:=d_V.out
   have hns57_1:=c_h.out
   have hms57_0:=d_W.out
   have hms57_1:=d_X.out
   have hs58 : w55.cell? ⟨b_K,1,none⟩ = some (.int .i64 0):=(a_a b_3.out 1).trans rfl
   have hfs58:=a_b b_3.out 1
   have hns58_0:=d_V.out
   have hns58_1:=c_h.out
   have hms58_0:=d_W.out
   have hms58_1:=d_X.out
   refine q_P (w1:=?_) (by rfl) rfl ?_ ?_
   rotate_left
   ·go_simp
    rfl
   refine hK.out _ _ ⟨((cell_far (p:=⟨b_K,_,none⟩) c_h.out _).trans (((cell_far (p:=⟨b_K,_,none⟩) c_h.out _).trans (hHeld.1)))),((cell_far (p:=⟨b_K,_,none⟩) c_h.out _).trans (((cell_far (p:=⟨b_K,_,none⟩) c_h.out _).trans (hHeld.2))))⟩ (fun hHeld => ?_)
   clear hK K
   refine a_y (i:=8) (N:=some 5) (v:=?_) (a':=?_) o_y rfl rfl (a_n HT_.out (by kernel_rfl)) (fun _ _ _ h => h) (Or.inl ⟨by rfl,?_⟩) ?_ ?_
   rotate_left
   ·intro w'
    go_simp
    with_reducible rfl
   rotate_left
   ·simp only [Act.put,sa_,sb_,sc_,a_r,a_s]
    rfl
   refine e_T (c_u HT_.out (by kernel_rfl)) ?_
   try go_wp2
   refine bodyPost_ret (c_o rfl _ _ b_K 24 #[.slice Ao56 y144.length co56,.int .i64 a1_0] (0,0) _ rfl (by (with_reducible repeat (first|refine a_j ?_ _|refine a_k ?_|refine a_i ?_ _));refine a_J (cs:=#[.slice Ao56 y144.length co56,.int .i64 0]) ?_ 1 _ rfl;(with_reducible repeat (first|refine a_j ?_ _|refine a_k ?_|refine a_i ?_ _));refine a_J (cs:=#[.slice none 0 0,.int .i64 0]) ?_ 0 _ rfl;(with_reducible repeat (first|refine a_j ?_ _|refine a_k ?_|refine a_i ?_ _));exact b_3.out) Try.underlying24 rfl (by kernel_rfl)) rfl ?_
   exact ⟨_,by first|rfl|(simp [a_w,a_x] <;> rfl)|(simp only [← hji44];first|rfl|(simp [a_w,a_x] <;> rfl))|(simp [*, a_w,a_x] <;> rfl),by (with_reducible repeat (first|apply Kd.a_R|apply Kd.a_S|apply Kd.a_Z));exact Kd.b_P (Kd.d_E (p:=⟨b_K,1,none⟩) (Kd.d_E (p:=⟨b_K,0,none⟩) (Kd.b_P w_D.out (fun k_ hk => (⟨hk,hk.2.2.2⟩ : _ ∧ k_ ≠ b_K))) (fun _ hk => hk.2) (.slice Ao56 y144.length co56)) (fun _ hk => hk.2) (.int .i64 a1_0)) (fun _ hk => hk.1.1),by repeat (first|(with_reducible first|exact HB.out|apply a_g|apply a_f|apply a_h|refine a_d ?_ c_2.out|refine a_d ?_ d_0.out|refine a_d ?_ e_8.out)|exact HB.out)⟩
end Go.Proofs.Ytgglkfilkagblaa.Q
end
section
namespace Go.Proofs.Ytgglkfilkagblaa.Q
open Go.RowKit Go.Proofs.YtgglkfilkagblaaW.PrintWords Go.Proofs.YtgglkfilkagblaaW.PrintLast Go.Proofs.YtgglkfilkagblaaW.PrintMore
set_option linter.unusedVariables false
set_option linter.unusedSimpArgs false
def b_J.f (k : Nat) (l0_0 : List (S27)) (a0_1 : Int) (a1 : Int) : Option ((List (S27)) × Int × Int):=(a_A.f k l0_0 a0_1).bind fun t152 => (if t152 = 0 then (if a1 < a0_1 then (some (([] : List (S27)),0,2)) else (if a1 > 1125899906842624 then (some (([] : List (S27)),0,2)) else (some (l0_0,a1,0)))) else (some (([] : List (S27)),0,390)))
theorem b_J.mono : ∀ a0 a1 a2 k,LeO (b_J.f k a0 a1 a2) (b_J.f (k + 1) a0 a1 a2):=by
 intro a0 a1 a2 k
 unfold b_J.f
 repeat' first
  | (with_reducible exact a_A.mono _ _ _)
  | (with_reducible exact LeO.refl _)
  | (with_reducible exact LeO.none _)
  | (with_reducible refine LeO.ite ?_ ?_)
  | (with_reducible refine LeO.bind ?_ (fun _ => ?_))
  | exact a_A.mono _ _ _
  | exact LeO.none _
  | refine LeO.ite ?_ ?_
  | refine LeO.bind ?_ (fun _ => ?_)
set_option maxHeartbeats 8000000 in
set_option maxRecDepth 100000 in
theorem b_J.calls (k : Nat) (P0_0_ : Nat → Prop) (A0_0 : Option Addr) (c0_0 : Nat) (l0_0 : List (S27)) (a0_1 : Int) (a1 : Int) (r1 : List (S27)) (r2 : Int) (r3 : Int) (w : World) (hs0_0 : Kd.V k27 27 w w.heap.size (fun k_ => P0_0_ k_) (.slice A0_0 l0_0.length c0_0) l0_0) (h : b_J.f k l0_0 a0_1 a1 = some (r1,r2,r3)) :
 Calls Try.prog 11 #[.agg #[.slice A0_0 l0_0.length c0_0,.int .i64 a0_1],.int .i64 a1] w fun e w' => ∃ v0_ : Value,e = .returned (.tuple #[.agg #[v0_,.int .i64 r2],.int .i64 r3]) ∧ Kd.V k27 27 w' w.heap.size (fun k_ => (P0_0_ k_ ∨ w.heap.size ≤ k_)) v0_ r1 ∧ Below w.heap.size w w':=by
 have hu24:=Try.underlying24
 have b_o:=a_e.mk (show Kd.V k27 27 w w.heap.size (fun k_ => (P0_0_ k_ ∨ w.heap.size ≤ k_)) (.slice A0_0 l0_0.length c0_0) l0_0 from Kd.b_X hs0_0 (fun k_ hk => .inl hk))
 have HB:=a_e.mk (Below.refl w.heap.size w)
 have H : ((a_A.f k l0_0 a0_1).bind fun t152 => (if t152 = 0 then (if a1 < a0_1 then (some (([] : List (S27)),0,2)) else (if a1 > 1125899906842624 then (some (([] : List (S27)),0,2)) else (some (l0_0,a1,0)))) else (some (([] : List (S27)),0,390)))) = some (r1,r2,r3):=h
 clear h
 replace H:=Option.bind_eq_some_iff.mp H
 obtain ⟨t152,A30,H⟩:=H
 replace H : (if t152 = 0 then (if a1 < a0_1 then (some (([] : List (S27)),0,2)) else (if a1 > 1125899906842624 then (some (([] : List (S27)),0,2)) else (some (l0_0,a1,0)))) else (some (([] : List (S27)),0,390))) = some (r1,r2,r3):=H
 have A3:=a_e.mk A30
 clear A30
 by_cases c4 : t152 = 0
 rotate_left
 ·rw [if_neg c4] at H
  have c4b0 : (t152 == 0) = false:=beq_eq_false_iff_ne.mpr c4
  have c4b1 : (t152 != 0) = true:=bne_iff_ne.mpr c4
  simp only [Option.some.injEq,Prod.mk.injEq] at H
  obtain ⟨rfl,rfl,rfl⟩:=H
  go_enter Try.func11,Try.ntmps11
  go_wp2_with (first|((with_reducible refine a_U (N:=2) rfl ?_);refine a_H ?hg (N:=2) ?hd (cs:=#[.slice A0_0 l0_0.length c0_0,.int .i64 a0_1]) (t:=24) ?hr ?_;(case hd => rfl);(case hg => rfl);(case hr => first|(go_simp;done)|(go_simp;rfl));intro d_3 hg w28 hbox hb;have c_Q:=a_e.mk (hbox);have t_x:=a_e.mk ((by rw [hg];exact (a_p (lup_ HB.out)) : w.heap.size ≤ d_3));have f_I:=a_e.mk ((by rw [hg];exact (a_p (lup_ HB.out)) : w.heap.size ≤ d_3));replace b_o:=a_e.mk (Kd.a_3 (Kd.b_q (by (with_reducible repeat (first|apply Kd.a_Q|apply Kd.a_O|apply Kd.a_W));exact b_o.out) d_3 (Nat.le_of_eq hg.symm)) hb);replace HB:=a_e.mk (a_t (lup_ HB.out) hb);clear hb hbox hg)|((with_reducible refine a_U (N:=4) rfl ?_);refine a_H ?hg (N:=4) ?hd (cs:=#[.slice none 0 0,.int .i64 0]) (t:=24) ?hr ?_;(case hd => rfl);(case hg => rfl);(case hr => first|(go_simp;done)|(go_simp;rfl));intro e_i hg w29 hbox hb;have e_L:=a_e.mk (hbox);have t_y:=a_e.mk ((by rw [hg];exact (a_p (by repeat (first|(with_reducible first|exact HB.out|apply a_g|apply a_f|apply a_h|refine a_d ?_ f_I.out)|exact HB.out))) : w.heap.size ≤ e_i));have j_z:=a_e.mk ((by rw [hg];exact (a_p (by repeat (first|(with_reducible first|exact HB.out|apply a_g|apply a_f|apply a_h|refine a_d ?_ f_I.out)|exact HB.out))) : w.heap.size ≤ e_i));have f_J:=a_e.mk ((by rw [hg];exact Nat.ne_of_lt (a_N (bup_ c_Q.out)) : d_3 ≠ e_i));have f_m:=a_e.mk ((by rw [hg];exact Nat.ne_of_gt (a_N (bup_ c_Q.out)) : e_i ≠ d_3));replace b_o:=a_e.mk (Kd.a_3 (Kd.b_q (by (with_reducible repeat (first|apply Kd.a_Q|apply Kd.a_O|apply Kd.a_W));exact b_o.out) e_i (Nat.le_of_eq hg.symm)) hb);replace c_Q:=a_e.mk (a_l (bup_ c_Q.out) hb);replace HB:=a_e.mk (a_t (by repeat (first|(with_reducible first|exact HB.out|apply a_g|apply a_f|apply a_h|refine a_d ?_ f_I.out)|exact HB.out)) hb);clear hb hbox hg;have t_u:=f_J.out;have t_v:=f_m.out;have m_M : w29.cell? ⟨d_3,0,none⟩ = some (.slice A0_0 l0_0.length c0_0):=(a_a c_Q.out 0).trans rfl;have m_N : w29.cell? ⟨d_3,1,none⟩ = some (.int .i64 a0_1):=(a_a c_Q.out 1).trans rfl;have m_O:=a_b c_Q.out 0;have m_P:=a_b c_Q.out 1)|((with_reducible refine a_P (f:=14) rfl ?_);refine b_v (some 8) rfl rfl Try.func14 (by kernel_rfl) rfl #[.agg #[.slice A0_0 l0_0.length c0_0,.int .i64 a0_1]] rfl (by (try simp only [List.map_toArray,List.map_cons,List.map_nil]);first|done|rfl|(simp only [List.length_drop,List.length_take];rfl)) ?_;(with_reducible refine (a_A.calls k _ _ l0_0 a0_1 t152 _ ?side1 ?side2 A3.out).mono ?_);(case side1 => repeat (first|exact (Kd.b_n b_o.out).2.2|(with_reducible refine Kd.a_9 ?_ _)|(with_reducible refine Kd.a_8 ?_ _)|(with_reducible refine Kd.b_i ?_)));(case side2 => exact (Kd.b_n b_o.out).2.1);rintro e w32 ⟨rfl,hb⟩;refine ⟨_,rfl,?_⟩;replace b_o:=a_e.mk (Kd.a_3 (by (with_reducible repeat (first|apply Kd.a_Q|apply Kd.a_O|apply Kd.a_W));exact b_o.out) hb);replace c_Q:=a_e.mk (a_l (bup_ c_Q.out) hb);replace e_L:=a_e.mk (a_l (bup_ e_L.out) hb);replace HB:=a_e.mk (a_t (by repeat (first|(with_reducible first|exact HB.out|apply a_g|apply a_f|apply a_h|refine a_d ?_ f_I.out|refine a_d ?_ j_z.out)|exact HB.out)) hb);(try clear hb);(try clear hb2);(try clear hk);(try clear hi);have m_Q : w32.cell? ⟨e_i,0,none⟩ = some (.slice none 0 0):=(a_a e_L.out 0).trans rfl;have m_R : w32.cell? ⟨e_i,1,none⟩ = some (.int .i64 0):=(a_a e_L.out 1).trans rfl;have m_S:=a_b e_L.out 0;have m_T:=a_b e_L.out 1))
  refine bodyPost_ret (c_o rfl _ _ e_i 24 #[.slice none 0 0,.int .i64 0] (0,0) _ rfl (by (with_reducible repeat (first|refine a_j ?_ _|refine a_k ?_|refine a_i ?_ _));refine a_J (cs:=#[.slice none 0 0,.int .i64 0]) ?_ 1 _ rfl;(with_reducible repeat (first|refine a_j ?_ _|refine a_k ?_|refine a_i ?_ _));refine a_J (cs:=#[.slice none 0 0,.int .i64 0]) ?_ 0 _ rfl;(with_reducible repeat (first|refine a_j ?_ _|refine a_k ?_|refine a_i ?_ _));exact e_L.out) Try.underlying24 rfl (by kernel_rfl)) rfl ?_
  exact ⟨_,by first|rfl|(simp [a_w,a_x] <;> rfl)|(simp [*, a_w,a_x] <;> rfl),(Kd.h_O _ _ _ _ _),by repeat (first|(with_reducible first|exact HB.out|apply a_g|apply a_f|apply a_h|refine a_d ?_ f_I.out|refine a_d ?_ j_z.out)|exact HB.out)⟩
 rw [if_pos c4] at H
 have c4b0 : (t152 == 0) = true:=beq_iff_eq.mpr c4
 have c4b1 : (t152 != 0) = false:=bne_eq_false_iff_eq.mpr c4
 clear c4
 by_cases c5 : a1 < a0_1
 ·rw [if_pos c5] at H
  have c5b0 : decide (a1 < a0_1) = true:=decide_eq_true c5
  clear c5
  simp only [Option.some.injEq,Prod.mk.injEq] at H
  obtain ⟨rfl,rfl,rfl⟩:=H
  go_enter Try.func11,Try.ntmps11
  go_wp2_with (first|((with_reducible refine a_U (N:=2) rfl ?_);refine a_H ?hg (N:=2) ?hd (cs:=#[.slice A0_0 l0_0.length c0_0,.int .i64 a0_1]) (t:=24) ?hr ?_;(case hd => rfl);(case hg => rfl);(case hr => first|(go_simp;done)|(go_simp;rfl));intro d_3 hg w6 hbox hb;have c_Q:=a_e.mk (hbox);have t_x:=a_e.mk ((by rw [hg];exact (a_p (lup_ HB.out)) : w.heap.size ≤ d_3));have f_I:=a_e.mk ((by rw [hg];exact (a_p (lup_ HB.out)) : w.heap.size ≤ d_3));replace b_o:=a_e.mk (Kd.a_3 (Kd.b_q (by (with_reducible repeat (first|apply Kd.a_Q|apply Kd.a_O|apply Kd.a_W));exact b_o.out) d_3 (Nat.le_of_eq hg.symm)) hb);replace HB:=a_e.mk (a_t (lup_ HB.out) hb);clear hb hbox hg)|((with_reducible refine a_U (N:=4) rfl ?_);refine a_H ?hg (N:=4) ?hd (cs:=#[.slice none 0 0,.int .i64 0]) (t:=24) ?hr ?_;(case hd => rfl);(case hg => rfl);(case hr => first|(go_simp;done)|(go_simp;rfl));intro e_i hg w7 hbox hb;have e_L:=a_e.mk (hbox);have t_y:=a_e.mk ((by rw [hg];exact (a_p (by repeat (first|(with_reducible first|exact HB.out|apply a_g|apply a_f|apply a_h|refine a_d ?_ f_I.out)|exact HB.out))) : w.heap.size ≤ e_i));have j_z:=a_e.mk ((by rw [hg];exact (a_p (by repeat (first|(with_reducible first|exact HB.out|apply a_g|apply a_f|apply a_h|refine a_d ?_ f_I.out)|exact HB.out))) : w.heap.size ≤ e_i));have f_J:=a_e.mk ((by rw [hg];exact Nat.ne_of_lt (a_N (bup_ c_Q.out)) : d_3 ≠ e_i));have f_m:=a_e.mk ((by rw [hg];exact Nat.ne_of_gt (a_N (bup_ c_Q.out)) : e_i ≠ d_3));replace b_o:=a_e.mk (Kd.a_3 (Kd.b_q (by (with_reducible repeat (first|apply Kd.a_Q|apply Kd.a_O|apply Kd.a_W));exact b_o.out) e_i (Nat.le_of_eq hg.symm)) hb);replace c_Q:=a_e.mk (a_l (bup_ c_Q.out) hb);replace HB:=a_e.mk (a_t (by repeat (first|(with_reducible first|exact HB.out|apply a_g|apply a_f|apply a_h|refine a_d ?_ f_I.out)|exact HB.out)) hb);clear hb hbox hg;have hnb8:=f_J.out;have hnc8:=f_m.out;have k_v : w7.cell? ⟨d_3,0,none⟩ = some (.slice A0_0 l0_0.length c0_0):=(a_a c_Q.out 0).trans rfl;have k_w : w7.cell? ⟨d_3,1,none⟩ = some (.int .i64 a0_1):=(a_a c_Q.out 1).trans rfl;have k_x:=a_b c_Q.out 0;have k_y:=a_b c_Q.out 1)|((with_reducible refine a_P (f:=14) rfl ?_);refine b_v (some 8) rfl rfl Try.func14 (by kernel_rfl) rfl #[.agg #[.slice A0_0 l0_0.length c0_0,.int .i64 a0_1]] rfl (by (try simp only [List.map_toArray,List.map_cons,List.map_nil]);first|done|rfl|(simp only [List.length_drop,List.length_take];rfl)) ?_;(with_reducible refine (a_A.calls k _ _ l0_0 a0_1 t152 _ ?side1 ?side2 A3.out).mono ?_);(case side1 => repeat (first|exact (Kd.b_n b_o.out).2.2|(with_reducible refine Kd.a_9 ?_ _)|(with_reducible refine Kd.a_8 ?_ _)|(with_reducible refine Kd.b_i ?_)));(case side2 => exact (Kd.b_n b_o.out).2.1);rintro e w10 ⟨rfl,hb⟩;refine ⟨_,rfl,?_⟩;replace b_o:=a_e.mk (Kd.a_3 (by (with_reducible repeat (first|apply Kd.a_Q|apply Kd.a_O|apply Kd.a_W));exact b_o.out) hb);replace c_Q:=a_e.mk (a_l (bup_ c_Q.out) hb);replace e_L:=a_e.mk (a_l (bup_ e_L.out) hb);replace HB:=a_e.mk (a_t (by repeat (first|(with_reducible first|exact HB.out|apply a_g|apply a_f|apply a_h|refine a_d ?_ f_I.out|refine a_d ?_ j_z.out)|exact HB.out)) hb);(try clear hb);(try clear hb2);(try clear hk);(try clear hi);have g_h : w10.cell? ⟨d_3,0,none⟩ = some (.slice A0_0 l0_0.length c0_0):=(a_a c_Q.out 0).trans rfl;have g_i : w10.cell? ⟨d_3,1,none⟩ = some (.int .i64 a0_1):=(a_a c_Q.out 1).trans rfl;have g_j:=a_b c_Q.out 0;have f_D:=a_b c_Q.out 1;have i_k : w10.cell? ⟨e_i,0,none⟩ = some (.slice none 0 0):=(a_a e_L.out 0).trans rfl;have i_l : w10.cell? ⟨e_i,1,none⟩ = some (.int .i64 0):=(a_a e_L.out 1).trans rfl;have i_m:=a_b e_L.out 0;have i_n:=a_b e_L.out 1))
  refine bodyPost_ret (c_o rfl _ _ e_i 24 #[.slice none 0 0,.int .i64 0] (0,0) _ rfl (by (with_reducible repeat (first|refine a_j ?_ _|refine a_k ?_|refine a_i ?_ _));refine a_J (cs:=#[.slice none 0 0,.int .i64 0]) ?_ 1 _ rfl;(with_reducible repeat (first|refine a_j ?_ _|refine a_k ?_|refine a_i ?_ _));refine a_J (cs:=#[.slice none 0 0,.int .i64 0]) ?_ 0 _ rfl;(with_reducible repeat (first|refine a_j ?_ _|refine a_k ?_|refine a_i ?_ _));exact e_L.out) Try.underlying24 rfl (by kernel_rfl)) rfl ?_
  exact ⟨_,by first|rfl|(simp [a_w,a_x] <;> rfl)|(simp [*, a_w,a_x] <;> rfl),(Kd.h_O _ _ _ _ _),by repeat (first|(with_reducible first|exact HB.out|apply a_g|apply a_f|apply a_h|refine a_d ?_ f_I.out|refine a_d ?_ j_z.out)|exact HB.out)⟩
 rw [if_neg c5] at H
 have c5b0 : decide (a1 < a0_1) = false:=decide_eq_false c5
 clear c5
 by_cases c13 : a1 > 1125899906842624
 ·rw [if_pos c13] at H
  have c13b0 : decide (1125899906842624 < a1) = true:=decide_eq_true c13
  clear c13
  simp only [Option.some.injEq,Prod.mk.injEq] at H
  obtain ⟨rfl,rfl,rfl⟩:=H
  go_enter Try.func11,Try.ntmps11
  go_wp2_with (first|((with_reducible refine a_U (N:=2) rfl ?_);refine a_H ?hg (N:=2) ?hd (cs:=#[.slice A0_0 l0_0.length c0_0,.int .i64 a0_1]) (t:=24) ?hr ?_;(case hd => rfl);(case hg => rfl);(case hr => first|(go_simp;done)|(go_simp;rfl));intro d_3 hg w14 hbox hb;have c_Q:=a_e.mk (hbox);have t_x:=a_e.mk ((by rw [hg];exact (a_p (lup_ HB.out)) : w.heap.size ≤ d_3));have f_I:=a_e.mk ((by rw [hg];exact (a_p (lup_ HB.out)) : w.heap.size ≤ d_3));replace b_o:=a_e.mk (Kd.a_3 (Kd.b_q (by (with_reducible repeat (first|apply Kd.a_Q|apply Kd.a_O|apply Kd.a_W));exact b_o.out) d_3 (Nat.le_of_eq hg.symm)) hb);replace HB:=a_e.mk (a_t (lup_ HB.out) hb);clear hb hbox hg)|((with_reducible refine a_U (N:=4) rfl ?_);refine a_H ?hg (N:=4) ?hd (cs:=#[.slice none 0 0,.int .i64 0]) (t:=24) ?hr ?_;(case hd => rfl);(case hg => rfl);(case hr => first|(go_simp;done)|(go_simp;rfl));intro e_i hg w15 hbox hb;have e_L:=a_e.mk (hbox);have t_y:=a_e.mk ((by rw [hg];exact (a_p (by repeat (first|(with_reducible first|exact HB.out|apply a_g|apply a_f|apply a_h|refine a_d ?_ f_I.out)|exact HB.out))) : w.heap.size ≤ e_i));have j_z:=a_e.mk ((by rw [hg];exact (a_p (by repeat (first|(with_reducible first|exact HB.out|apply a_g|apply a_f|apply a_h|refine a_d ?_ f_I.out)|exact HB.out))) : w.heap.size ≤ e_i));have f_J:=a_e.mk ((by rw [hg];exact Nat.ne_of_lt (a_N (bup_ c_Q.out)) : d_3 ≠ e_i));have f_m:=a_e.mk ((by rw [hg];exact Nat.ne_of_gt (a_N (bup_ c_Q.out)) : e_i ≠ d_3));replace b_o:=a_e.mk (Kd.a_3 (Kd.b_q (by (with_reducible repeat (first|apply Kd.a_Q|apply Kd.a_O|apply Kd.a_W));exact b_o.out) e_i (Nat.le_of_eq hg.symm)) hb);replace c_Q:=a_e.mk (a_l (bup_ c_Q.out) hb);replace HB:=a_e.mk (a_t (by repeat (first|(with_reducible first|exact HB.out|apply a_g|apply a_f|apply a_h|refine a_d ?_ f_I.out)|exact HB.out)) hb);clear hb hbox hg;have B_B:=f_J.out;have B_C:=f_m.out;have m_Z : w15.cell? ⟨d_3,0,none⟩ = some (.slice A0_0 l0_0.length c0_0):=(a_a c_Q.out 0).trans rfl;have m_0 : w15.cell? ⟨d_3,1,none⟩ = some (.int .i64 a0_1):=(a_a c_Q.out 1).trans rfl;have m_1:=a_b c_Q.out 0;have m_2:=a_b c_Q.out 1)|((with_reducible refine a_P (f:=14) rfl ?_);refine b_v (some 8) rfl rfl Try.func14 (by kernel_rfl) rfl #[.agg #[.slice A0_0 l0_0.length c0_0,.int .i64 a0_1]] rfl (by (try simp only [List.map_toArray,List.map_cons,List.map_nil]);first|done|rfl|(simp only [List.length_drop,List.length_take];rfl)) ?_;(with_reducible refine (a_A.calls k _ _ l0_0 a0_1 t152 _ ?side1 ?side2 A3.out).mono ?_);(case side1 => repeat (first|exact (Kd.b_n b_o.out).2.2|(with_reducible refine Kd.a_9 ?_ _)|(with_reducible refine Kd.a_8 ?_ _)|(with_reducible refine Kd.b_i ?_)));(case side2 => exact (Kd.b_n b_o.out).2.1);rintro e w18 ⟨rfl,hb⟩;refine ⟨_,rfl,?_⟩;replace b_o:=a_e.mk (Kd.a_3 (by (with_reducible repeat (first|apply Kd.a_Q|apply Kd.a_O|apply Kd.a_W));exact b_o.out) hb);replace c_Q:=a_e.mk (a_l (bup_ c_Q.out) hb);replace e_L:=a_e.mk (a_l (bup_ e_L.out) hb);replace HB:=a_e.mk (a_t (by repeat (first|(with_reducible first|exact HB.out|apply a_g|apply a_f|apply a_h|refine a_d ?_ f_I.out|refine a_d ?_ j_z.out)|exact HB.out)) hb);(try clear hb);(try clear hb2);(try clear hk);(try clear hi);have h_h : w18.cell? ⟨d_3,0,none⟩ = some (.slice A0_0 l0_0.length c0_0):=(a_a c_Q.out 0).trans rfl;have h_i : w18.cell? ⟨d_3,1,none⟩ = some (.int .i64 a0_1):=(a_a c_Q.out 1).trans rfl;have h_j:=a_b c_Q.out 0;have h_k:=a_b c_Q.out 1;have k_Q : w18.cell? ⟨e_i,0,none⟩ = some (.slice none 0 0):=(a_a e_L.out 0).trans rfl;have m_K : w18.cell? ⟨e_i,1,none⟩ = some (.int .i64 0):=(a_a e_L.out 1).trans rfl;have k_R:=a_b e_L.out 0;have m_L:=a_b e_L.out 1))
  refine bodyPost_ret (c_o rfl _ _ e_i 24 #[.slice none 0 0,.int .i64 0] (0,0) _ rfl (by (with_reducible repeat (first|refine a_j ?_ _|refine a_k ?_|refine a_i ?_ _));refine a_J (cs:=#[.slice none 0 0,.int .i64 0]) ?_ 1 _ rfl;(with_reducible repeat (first|refine a_j ?_ _|refine a_k ?_|refine a_i ?_ _));refine a_J (cs:=#[.slice none 0 0,.int .i64 0]) ?_ 0 _ rfl;(with_reducible repeat (first|refine a_j ?_ _|refine a_k ?_|refine a_i ?_ _));exact e_L.out) Try.underlying24 rfl (by kernel_rfl)) rfl ?_
  exact ⟨_,by first|rfl|(simp [a_w,a_x] <;> rfl)|(simp [*, a_w,a_x] <;> rfl),(Kd.h_O _ _ _ _ _),by repeat (first|(with_reducible first|exact HB.out|apply a_g|apply a_f|apply a_h|refine a_d ?_ f_I.out|refine a_d ?_ j_z.out)|exact HB.out)⟩
 rw [if_neg c13] at H
 have c13b0 : decide (1125899906842624 < a1) = false:=decide_eq_false c13
 clear c13
 simp only [Option.some.injEq,Prod.mk.injEq] at H
 obtain ⟨rfl,rfl,rfl⟩:=H
 go_enter Try.func11,Try.ntmps11
 go_wp2_with (first|((with_reducible refine a_U (N:=2) rfl ?_);refine a_H ?hg (N:=2) ?hd (cs:=#[.slice A0_0 l0_0.length c0_0,.int .i64 a0_1]) (t:=24) ?hr ?_;(case hd => rfl);(case hg => rfl);(case hr => first|(go_simp;done)|(go_simp;rfl));intro d_3 hg w21 hbox hb;have c_Q:=a_e.mk (hbox);have t_x:=a_e.mk ((by rw [hg];exact (a_p (lup_ HB.out)) : w.heap.size ≤ d_3));have f_I:=a_e.mk ((by rw [hg];exact (a_p (lup_ HB.out)) : w.heap.size ≤ d_3));replace b_o:=a_e.mk (Kd.a_3 (Kd.b_q (by (with_reducible repeat (first|apply Kd.a_Q|apply Kd.a_O|apply Kd.a_W));exact b_o.out) d_3 (Nat.le_of_eq hg.symm)) hb);replace HB:=a_e.mk (a_t (lup_ HB.out) hb);clear hb hbox hg)|((with_reducible refine a_U (N:=4) rfl ?_);refine a_H ?hg (N:=4) ?hd (cs:=#[.slice none 0 0,.int .i64 0]) (t:=24) ?hr ?_;(case hd => rfl);(case hg => rfl);(case hr => first|(go_simp;done)|(go_simp;rfl));intro e_i hg w22 hbox hb;have e_L:=a_e.mk (hbox);have t_y:=a_e.mk ((by rw [hg];exact (a_p (by repeat (first|(with_reducible first|exact HB.out|apply a_g|apply a_f|apply a_h|refine a_d ?_ f_I.out)|exact HB.out))) : w.heap.size ≤ e_i));have j_z:=a_e.mk ((by rw [hg];exact (a_p (by repeat (first|(with_reducible first|exact HB.out|apply a_g|apply a_f|apply a_h|refine a_d ?_ f_I.out)|exact HB.out))) : w.heap.size ≤ e_i));have f_J:=a_e.mk ((by rw [hg];exact Nat.ne_of_lt (a_N (bup_ c_Q.out)) : d_3 ≠ e_i));have f_m:=a_e.mk ((by rw [hg];exact Nat.ne_of_gt (a_N (bup_ c_Q.out)) : e_i ≠ d_3));replace b_o:=a_e.mk (Kd.a_3 (Kd.b_q (by (with_reducible repeat (first|apply Kd.a_Q|apply Kd.a_O|apply Kd.a_W));exact b_o.out) e_i (Nat.le_of_eq hg.symm)) hb);replace c_Q:=a_e.mk (a_l (bup_ c_Q.out) hb);replace HB:=a_e.mk (a_t (by repeat (first|(with_reducible first|exact HB.out|apply a_g|apply a_f|apply a_h|refine a_d ?_ f_I.out)|exact HB.out)) hb);clear hb hbox hg;have w_E:=f_J.out;have w_F:=f_m.out;have k_Y : w22.cell? ⟨d_3,0,none⟩ = some (.slice A0_0 l0_0.length c0_0):=(a_a c_Q.out 0).trans rfl;have k_Z : w22.cell? ⟨d_3,1,none⟩ = some (.int .i64 a0_1):=(a_a c_Q.out 1).trans rfl;have k_0:=a_b c_Q.out 0;have k_1:=a_b c_Q.out 1)|((with_reducible refine a_P (f:=14) rfl ?_);refine b_v (some 8) rfl rfl Try.func14 (by kernel_rfl) rfl #[.agg #[.slice A0_0 l0_0.length c0_0,.int .i64 a0_1]] rfl (by (try simp only [List.map_toArray,List.map_cons,List.map_nil]);first|done|rfl|(simp only [List.length_drop,List.length_take];rfl)) ?_;(with_reducible refine (a_A.calls k _ _ l0_0 a0_1 t152 _ ?side1 ?side2 A3.out).mono ?_);(case side1 => repeat (first|exact (Kd.b_n b_o.out).2.2|(with_reducible refine Kd.a_9 ?_ _)|(with_reducible refine Kd.a_8 ?_ _)|(with_reducible refine Kd.b_i ?_)));(case side2 => exact (Kd.b_n b_o.out).2.1);rintro e w25 ⟨rfl,hb⟩;refine ⟨_,rfl,?_⟩;replace b_o:=a_e.mk (Kd.a_3 (by (with_reducible repeat (first|apply Kd.a_Q|apply Kd.a_O|apply Kd.a_W));exact b_o.out) hb);replace c_Q:=a_e.mk (a_l (bup_ c_Q.out) hb);replace e_L:=a_e.mk (a_l (bup_ e_L.out) hb);replace HB:=a_e.mk (a_t (by repeat (first|(with_reducible first|exact HB.out|apply a_g|apply a_f|apply a_h|refine a_d ?_ f_I.out|refine a_d ?_ j_z.out)|exact HB.out)) hb);(try clear hb);(try clear hb2);(try clear hk);(try clear hi);have j_p : w25.cell? ⟨d_3,0,none⟩ = some (.slice A0_0 l0_0.length c0_0):=(a_a c_Q.out 0).trans rfl;have j_q : w25.cell? ⟨d_3,1,none⟩ = some (.int .i64 a0_1):=(a_a c_Q.out 1).trans rfl;have j_r:=a_b c_Q.out 0;have j_s:=a_b c_Q.out 1;have p_H : w25.cell? ⟨e_i,0,none⟩ = some (.slice none 0 0):=(a_a e_L.out 0).trans rfl;have p_I : w25.cell? ⟨e_i,1,none⟩ = some (.int .i64 0):=(a_a e_L.out 1).trans rfl;have p_J:=a_b e_L.out 0;have p_K:=a_b e_L.out 1))
 refine bodyPost_ret (c_o rfl _ _ e_i 24 #[.slice A0_0 l0_0.length c0_0,.int .i64 a1] (0,0) _ rfl (by (with_reducible repeat (first|refine a_j ?_ _|refine a_k ?_|refine a_i ?_ _));refine a_J (cs:=#[.slice A0_0 l0_0.length c0_0,.int .i64 0]) ?_ 1 _ rfl;(with_reducible repeat (first|refine a_j ?_ _|refine a_k ?_|refine a_i ?_ _));refine a_J (cs:=#[.slice none 0 0,.int .i64 0]) ?_ 0 _ rfl;(with_reducible repeat (first|refine a_j ?_ _|refine a_k ?_|refine a_i ?_ _));refine a_B ?_ f_m.out _;(with_reducible repeat (first|refine a_j ?_ _|refine a_k ?_|refine a_i ?_ _));exact e_L.out) Try.underlying24 rfl (by kernel_rfl)) rfl ?_
 exact ⟨_,by first|rfl|(simp [a_w,a_x] <;> rfl)|(simp [*, a_w,a_x] <;> rfl),by (with_reducible repeat (first|apply Kd.a_Q|apply Kd.a_O|apply Kd.a_W));exact Kd.b_X (Kd.g_7 (p:=⟨e_i,1,none⟩) (Kd.g_7 (p:=⟨e_i,0,none⟩) (Kd.g_7 (p:=⟨d_3,1,none⟩) (Kd.b_X (Kd.b_X b_o.out (fun k_ hk => (⟨hk,hk.1.2⟩ : _ ∧ k_ ≠ d_3))) (fun k_ hk => (⟨hk,hk.1.2⟩ : _ ∧ k_ ≠ e_i))) (fun _ hk => hk.1.2) (.int .i64 a1)) (fun _ hk => hk.2) (.slice A0_0 l0_0.length c0_0)) (fun _ hk => hk.2) (.int .i64 a1)) (fun _ hk => hk.1.1.1.1),by repeat (first|(with_reducible first|exact HB.out|apply a_g|apply a_f|apply a_h|refine a_d ?_ f_I.out|refine a_d ?_ j_z.out)|exact HB.out)⟩
end Go.Proofs.Ytgglkfilkagblaa.Q
end
section
namespace Go.Proofs.Ytgglkfilkagblaa.Q
open Go.RowKit Go.Proofs.YtgglkfilkagblaaW.PrintWords Go.Proofs.YtgglkfilkagblaaW.PrintLast Go.Proofs.YtgglkfilkagblaaW.PrintMore
set_option linter.unusedVariables false
set_option linter.unusedSimpArgs false
def b_t.f (a0 : Int) : Option (Bool):=some (decide (a0 < 256))
set_option maxHeartbeats 8000000 in
set_option maxRecDepth 100000 in
theorem b_t.calls (a0 : Int) (r : Bool) (w : World) (h : b_t.f a0 = some r) :
 Calls Try.prog 82 #[.int .u32 a0] w fun e w' => e = .returned (.bool r) ∧ c_g w w':=by
 have H : (some (decide (a0 < 256))) = some r:=h
 clear h
 obtain rfl:=Option.some.inj H
 go_enter Try.func82,Try.ntmps82
 go_wp2
 go_ret
 exact ⟨by first|rfl|(simp;done)|(simp [*];done),by repeat (first|exact c_g.refl _|apply c_g.step)⟩
end Go.Proofs.Ytgglkfilkagblaa.Q
end
