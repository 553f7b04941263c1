/- Part 6 of 9 of what the row of AuditSums stands on: contracts over the given program's functions, the plain law, the row; no condition beyond those that each theorem states. -/
import Derived.Test.YtgglkfilkagblaaXAuditSums4
section
namespace Go.Proofs.Ytgglkfilkagblaa.Q
open Go.RowKit Go.Proofs.YtgglkfilkagblaaW.PrintWords Go.Proofs.YtgglkfilkagblaaW.PrintLast Go.Proofs.YtgglkfilkagblaaW.PrintMore
set_option linter.unusedVariables false
set_option linter.unusedSimpArgs false
theorem own_ne {A : Option Addr} {n m c c' k : Nat} (h : some k ≠ (Value.slice A n c).ownBlock) : some k ≠ (Value.slice A m c').ownBlock:=by cases A <;> exact h
def a_R.j0 : Nat → List (S27) → Int → Bool → Int → List (S65) → Option ((List (S27)) × Int × Int)
 | 0,_,_,_,_,_ => none
 | k + 1,x6,x7,x42,x134000,x134001 => if x42 = true then (if 0 ≤ (wrap64 (x7 - 1)) then (if (wrap64 (x7 - 1)) ≤ (x6.length : Int) then ((some (x6.take ((wrap64 (x7 - 1)) : Int).toNat : List (S27))).bind fun y141 => (if (y141.length : Int) = 2000 then (some (([] : List (S27)),0,6)) else (if y141.length < 4398046511104 then (some ((y141 ++ [(⟨x134000,x134001⟩ : S27)]),x134000,0)) else (none)))) else (none)) else (none)) else (if (x6.length : Int) = 2000 then (some (([] : List (S27)),0,6)) else (if x6.length < 4398046511104 then (some ((x6 ++ [(⟨x134000,x134001⟩ : S27)]),x134000,0)) else (none)))
def a_R.f (k : Nat) (l0_0 : List (S27)) (a0_1 : Int) (a1_0 : Int) (l1_1 : List (S65)) : Option ((List (S27)) × Int × Int):=(a_t.f k l0_0 a0_1).bind fun t135 => (if t135 = 0 then ((a_y.f k a1_0 l1_1).bind fun t136 => (if t136 = true then (if a1_0 < a0_1 then (some (([] : List (S27)),0,2)) else ((c_Y.f l0_0).bind fun t137 => (if (t137.length : Int) > 0 then (if 0 ≤ (wrap64 ((t137.length : Int) - 1)) then (if (wrap64 ((t137.length : Int) - 1)) < (t137.length : Int) then (a_R.j0 k t137 (t137.length : Int) (((a_p t137 (wrap64 ((t137.length : Int) - 1))).f0) == a1_0) a1_0 l1_1) else (none)) else (none)) else (a_R.j0 k t137 (t137.length : Int) false a1_0 l1_1)))) else (some (([] : List (S27)),0,2)))) else (some (([] : List (S27)),0,390)))
theorem a_R.c_8 : ∀ k,(∀ y0 y1 y2 y3 y4,LeO (a_R.j0 k y0 y1 y2 y3 y4) (a_R.j0 (k + 1) y0 y1 y2 y3 y4))
 | 0 => fun _ _ _ _ _ r h => by simp [a_R.j0] at h
 | k + 1 => by
  have ih0:=a_R.c_8 k
  ·intro y0 y1 y2 y3 y4
   unfold a_R.j0
   repeat' first
   | (with_reducible exact ih0 _ _ _ _ _)
   | (with_reducible exact a_t.mono _ _ _)
   | (with_reducible exact a_y.mono _ _ _)
   | (with_reducible exact LeO.refl _)
   | (with_reducible exact LeO.none _)
   | (with_reducible refine LeO.ite ?_ ?_)
   | (with_reducible refine LeO.bind ?_ (fun _ => ?_))
   | exact ih0 _ _ _ _ _
   | exact a_t.mono _ _ _
   | exact a_y.mono _ _ _
   | exact LeO.none _
   | refine LeO.ite ?_ ?_
   | refine LeO.bind ?_ (fun _ => ?_)
theorem a_R.mono : ∀ a0 a1 a2 a3 k,LeO (a_R.f k a0 a1 a2 a3) (a_R.f (k + 1) a0 a1 a2 a3):=by
 intro a0 a1 a2 a3 k
 have ih0:=a_R.c_8 k
 unfold a_R.f
 repeat' first
  | (with_reducible exact ih0 _ _ _ _ _)
  | (with_reducible exact a_t.mono _ _ _)
  | (with_reducible exact a_y.mono _ _ _)
  | (with_reducible exact LeO.refl _)
  | (with_reducible exact LeO.none _)
  | (with_reducible refine LeO.ite ?_ ?_)
  | (with_reducible refine LeO.bind ?_ (fun _ => ?_))
  | exact ih0 _ _ _ _ _
  | exact a_t.mono _ _ _
  | exact a_y.mono _ _ _
  | exact LeO.none _
  | refine LeO.ite ?_ ?_
  | refine LeO.bind ?_ (fun _ => ?_)
def a_R.T7 : Bool × List (List Nat × List Nat):=(true,[([],[]),([0],[0]),([1],[1]),([2],[2]),([2],[2]),([4,2],[2,4]),([3,5,2],[2,3,5]),([6,2],[2,6]),([7,2],[2,7]),([2],[2]),([9,2],[2,9]),([8,10,2],[2,8,10]),([2,11],[2,11])])
def a_R.B7 : List Nat:=[0,1,3,7,7,23,63,127,255,7,519,2047,4095]
theorem a_R.tab7 : rtab .any (opsOf Try.f10 7) = a_R.T7:=by kernel_rfl
theorem a_R.n_T : d_4 a_R.T7.2 a_R.B7 = true:=by kernel_rfl
def a_R.T11 : Bool × List (List Nat × List Nat):=(true,[([],[]),([],[]),([1],[1]),([0,2],[0,2]),([],[]),([4],[4]),([3,5],[3,5]),([6,3,0,1,2,3,4,5,6],[6]),([7,0,1,2,3,4,5,6,7],[])])
def a_R.B11 : List Nat:=[0,0,2,7,0,16,63,127,255]
theorem a_R.n_O : rtab .any (opsOf Try.f10 11) = a_R.T11:=by kernel_rfl
theorem a_R.l_W : d_4 a_R.T11.2 a_R.B11 = true:=by kernel_rfl
set_option maxHeartbeats 8000000 in
set_option maxRecDepth 100000 in
theorem a_R.calls (k : Nat) (P0_0_ : Nat → Prop) (A0_0 : Option Addr) (c0_0 : Nat) (l0_0 : List (S27)) (a0_1 : Int) (a1_0 : Int) (P1_1_ : Nat → Prop) (A1_1 : Option Addr) (c1_1 : Nat) (l1_1 : List (S65)) (r1 : List (S27)) (r2 : Int) (r3 : Int) (w : World) (hs0_0 : Kd.V k27 27 w w.heap.size (fun k_ => P0_0_ k_) (.slice A0_0 l0_0.length c0_0) l0_0) (hs1_1 : Kd.V k65 65 w w.heap.size (fun k_ => P1_1_ k_) (.slice A1_1 l1_1.length c1_1) l1_1) (h : a_R.f k l0_0 a0_1 a1_0 l1_1 = some (r1,r2,r3)) :
 Calls Try.prog 10 #[.agg #[.slice A0_0 l0_0.length c0_0,.int .i64 a0_1],.agg #[.int .i64 a1_0,.slice A1_1 l1_1.length c1_1]] w fun e w' => ∃ v0_ : Value,e = .returned (.tuple #[.agg #[v0_,.int .i64 r2],.int .i64 r3]) ∧ Kd.N k27 27 w' w.heap.size (fun k_ => ((P0_0_ k_ ∨ P1_1_ k_) ∨ w.heap.size ≤ k_)) v0_ r1 ∧ Below w.heap.size w w':=by
 have hu24:=Try.underlying24
 have hu27:=Try.underlying27
 have b_o:=a_c.mk (show Kd.V k27 27 w w.heap.size (fun k_ => ((P0_0_ k_ ∨ P1_1_ k_) ∨ w.heap.size ≤ k_)) (.slice A0_0 l0_0.length c0_0) l0_0 from Kd.c_O hs0_0 (fun k_ hk => .inl (.inl hk)))
 have b_8:=a_c.mk (show Kd.V k65 65 w w.heap.size (fun k_ => ((P0_0_ k_ ∨ P1_1_ k_) ∨ w.heap.size ≤ k_)) (.slice A1_1 l1_1.length c1_1) l1_1 from Kd.c_O hs1_1 (fun k_ hk => .inl (.inr hk)))
 have HB:=a_c.mk (Below.refl w.heap.size w)
 have H : ((a_t.f k l0_0 a0_1).bind fun t135 => (if t135 = 0 then ((a_y.f k a1_0 l1_1).bind fun t136 => (if t136 = true then (if a1_0 < a0_1 then (some (([] : List (S27)),0,2)) else ((c_Y.f l0_0).bind fun t137 => (if (t137.length : Int) > 0 then (if 0 ≤ (wrap64 ((t137.length : Int) - 1)) then (if (wrap64 ((t137.length : Int) - 1)) < (t137.length : Int) then (a_R.j0 k t137 (t137.length : Int) (((a_p t137 (wrap64 ((t137.length : Int) - 1))).f0) == a1_0) a1_0 l1_1) else (none)) else (none)) else (a_R.j0 k t137 (t137.length : Int) false a1_0 l1_1)))) else (some (([] : List (S27)),0,2)))) else (some (([] : List (S27)),0,390)))) = some (r1,r2,r3):=h
 clear h
 replace H:=Option.bind_eq_some_iff.mp H
 obtain ⟨t135,A30,H⟩:=H
 replace H : (if t135 = 0 then ((a_y.f k a1_0 l1_1).bind fun t136 => (if t136 = true then (if a1_0 < a0_1 then (some (([] : List (S27)),0,2)) else ((c_Y.f l0_0).bind fun t137 => (if (t137.length : Int) > 0 then (if 0 ≤ (wrap64 ((t137.length : Int) - 1)) then (if (wrap64 ((t137.length : Int) - 1)) < (t137.length : Int) then (a_R.j0 k t137 (t137.length : Int) (((a_p t137 (wrap64 ((t137.length : Int) - 1))).f0) == a1_0) a1_0 l1_1) else (none)) else (none)) else (a_R.j0 k t137 (t137.length : Int) false a1_0 l1_1)))) else (some (([] : List (S27)),0,2)))) else (some (([] : List (S27)),0,390))) = some (r1,r2,r3):=H
 have A3:=a_c.mk A30
 clear A30
 by_cases c4 : t135 = 0
 rotate_left
 ·rw [if_neg c4] at H
  have c4b0 : (t135 == 0) = false:=beq_eq_false_iff_ne.mpr c4
  have c4b1 : (t135 != 0) = true:=bne_iff_ne.mpr c4
  simp only [Option.some.injEq,Prod.mk.injEq] at H
  obtain ⟨rfl,rfl,rfl⟩:=H
  go_enter Try.func10,Try.ntmps10
  go_wp2_with (first|((with_reducible refine a_M (N:=2) rfl ?_);refine a_G ?hg (N:=2) ?hd (cs:=#[.slice A0_0 l0_0.length c0_0,.int .i64 a0_1]) (t:=24) ?hr ?_;(case hd => rfl);(case hg => rfl);(case hr => first|(go_simp;done)|(go_simp;rfl));intro b_I hg w80 hbox hb;have b_j:=a_c.mk (hbox);have n_p:=a_c.mk ((by rw [hg];exact (a_n (lup_ HB.out)) : w.heap.size ≤ b_I));have c_a:=a_c.mk ((by rw [hg];exact (a_n (lup_ HB.out)) : w.heap.size ≤ b_I));replace b_o:=a_c.mk (Kd.b_c (Kd.b_w (by (with_reducible repeat (first|apply Kd.a_Z|apply Kd.a_0|apply Kd.a_6));exact b_o.out) b_I (Nat.le_of_eq hg.symm)) hb);replace b_8:=a_c.mk (Kd.b_c (Kd.b_w (by (with_reducible repeat (first|apply Kd.a_Z|apply Kd.a_0|apply Kd.a_6));exact b_8.out) b_I (Nat.le_of_eq hg.symm)) hb);replace HB:=a_c.mk (a_o (lup_ HB.out) hb);clear hb hbox hg)|((with_reducible refine a_M (N:=3) rfl ?_);refine a_G ?hg (N:=3) ?hd (cs:=#[.int .i64 a1_0,.slice A1_1 l1_1.length c1_1]) (t:=27) ?hr ?_;(case hd => rfl);(case hg => rfl);(case hr => first|(go_simp;done)|(go_simp;rfl));intro b_E hg w81 hbox hb;have b_p:=a_c.mk (hbox);have n_q:=a_c.mk ((by rw [hg];exact (a_n (by repeat (first|(with_reducible first|exact HB.out|apply a_g|apply a_b|apply a_h|refine a_f ?_ c_a.out)|exact HB.out))) : w.heap.size ≤ b_E));have c_J:=a_c.mk ((by rw [hg];exact (a_n (by repeat (first|(with_reducible first|exact HB.out|apply a_g|apply a_b|apply a_h|refine a_f ?_ c_a.out)|exact HB.out))) : w.heap.size ≤ b_E));have d_B:=a_c.mk ((by rw [hg];exact Nat.ne_of_lt (a_J (bup_ b_j.out)) : b_I ≠ b_E));have d_C:=a_c.mk ((by rw [hg];exact Nat.ne_of_gt (a_J (bup_ b_j.out)) : b_E ≠ b_I));replace b_o:=a_c.mk (Kd.b_c (Kd.b_w (by (with_reducible repeat (first|apply Kd.a_Z|apply Kd.a_0|apply Kd.a_6));exact b_o.out) b_E (Nat.le_of_eq hg.symm)) hb);replace b_8:=a_c.mk (Kd.b_c (Kd.b_w (by (with_reducible repeat (first|apply Kd.a_Z|apply Kd.a_0|apply Kd.a_6));exact b_8.out) b_E (Nat.le_of_eq hg.symm)) hb);replace b_j:=a_c.mk (a_m (bup_ b_j.out) hb);replace HB:=a_c.mk (a_o (by repeat (first|(with_reducible first|exact HB.out|apply a_g|apply a_b|apply a_h|refine a_f ?_ c_a.out)|exact HB.out)) hb);clear hb hbox hg)|((with_reducible refine a_M (N:=4) rfl ?_);refine a_G ?hg (N:=4) ?hd (cs:=#[.slice none 0 0,.int .i64 0]) (t:=24) ?hr ?_;(case hd => rfl);(case hg => rfl);(case hr => first|(go_simp;done)|(go_simp;rfl));intro b_l hg w82 hbox hb;have b_z:=a_c.mk (hbox);have n_r:=a_c.mk ((by rw [hg];exact (a_n (by repeat (first|(with_reducible first|exact HB.out|apply a_g|apply a_b|apply a_h|refine a_f ?_ c_a.out|refine a_f ?_ c_J.out)|exact HB.out))) : w.heap.size ≤ b_l));have d_i:=a_c.mk ((by rw [hg];exact (a_n (by repeat (first|(with_reducible first|exact HB.out|apply a_g|apply a_b|apply a_h|refine a_f ?_ c_a.out|refine a_f ?_ c_J.out)|exact HB.out))) : w.heap.size ≤ b_l));have c_G:=a_c.mk ((by rw [hg];exact Nat.ne_of_lt (a_J (bup_ b_j.out)) : b_I ≠ b_l));have c_H:=a_c.mk ((by rw [hg];exact Nat.ne_of_gt (a_J (bup_ b_j.out)) : b_l ≠ b_I));have b_L:=a_c.mk ((by rw [hg];exact Nat.ne_of_lt (a_J (bup_ b_p.out)) : b_E ≠ b_l));have c_I:=a_c.mk ((by rw [hg];exact Nat.ne_of_gt (a_J (bup_ b_p.out)) : b_l ≠ b_E));replace b_o:=a_c.mk (Kd.b_c (Kd.b_w (by (with_reducible repeat (first|apply Kd.a_Z|apply Kd.a_0|apply Kd.a_6));exact b_o.out) b_l (Nat.le_of_eq hg.symm)) hb);replace b_8:=a_c.mk (Kd.b_c (Kd.b_w (by (with_reducible repeat (first|apply Kd.a_Z|apply Kd.a_0|apply Kd.a_6));exact b_8.out) b_l (Nat.le_of_eq hg.symm)) hb);replace b_j:=a_c.mk (a_m (bup_ b_j.out) hb);replace b_p:=a_c.mk (a_m (bup_ b_p.out) hb);replace HB:=a_c.mk (a_o (by repeat (first|(with_reducible first|exact HB.out|apply a_g|apply a_b|apply a_h|refine a_f ?_ c_a.out|refine a_f ?_ c_J.out)|exact HB.out)) hb);clear hb hbox hg;have t_Q:=d_B.out;have t_R:=d_C.out;have t_S:=c_G.out;have t_T:=c_H.out;have r_e : w82.cell? ⟨b_I,0,none⟩ = some (.slice A0_0 l0_0.length c0_0):=(a_a b_j.out 0).trans rfl;have r_f : w82.cell? ⟨b_I,1,none⟩ = some (.int .i64 a0_1):=(a_a b_j.out 1).trans rfl;have r_g:=a_e b_j.out 0;have r_h:=a_e b_j.out 1)|((with_reducible refine b_a (f:=14) rfl ?_);refine c_K (some 10) rfl rfl Try.func14 (by kernel_rfl) rfl #[.agg #[.slice A0_0 l0_0.length c0_0,.int .i64 a0_1]] rfl (by (try simp only [List.map_toArray,List.map_cons,List.map_nil]);first|done|rfl|(simp only [List.length_drop,List.length_take];rfl)) ?_;(with_reducible refine (a_t.calls k _ _ l0_0 a0_1 t135 _ ?side1 ?side2 A3.out).mono ?_);(case side1 => repeat (first|exact (Kd.b_C b_o.out).2.2|(with_reducible refine Kd.a_8 ?_ _)|(with_reducible refine Kd.a_7 ?_ _)|(with_reducible refine Kd.b_t ?_)));(case side2 => exact (Kd.b_C b_o.out).2.1);rintro e w86 ⟨rfl,hb⟩;refine ⟨_,rfl,?_⟩;replace b_o:=a_c.mk (Kd.b_c (by (with_reducible repeat (first|apply Kd.a_Z|apply Kd.a_0|apply Kd.a_6));exact b_o.out) hb);replace b_8:=a_c.mk (Kd.b_c (by (with_reducible repeat (first|apply Kd.a_Z|apply Kd.a_0|apply Kd.a_6));exact b_8.out) hb);replace b_j:=a_c.mk (a_m (bup_ b_j.out) hb);replace b_p:=a_c.mk (a_m (bup_ b_p.out) hb);replace b_z:=a_c.mk (a_m (bup_ b_z.out) hb);replace HB:=a_c.mk (a_o (by repeat (first|(with_reducible first|exact HB.out|apply a_g|apply a_b|apply a_h|refine a_f ?_ c_a.out|refine a_f ?_ c_J.out|refine a_f ?_ d_i.out)|exact HB.out)) hb);(try clear hb);(try clear hb2);(try clear hk);(try clear hi);have t_U:=c_I.out;have t_V:=b_L.out;have r_i : w86.cell? ⟨b_l,0,none⟩ = some (.slice none 0 0):=(a_a b_z.out 0).trans rfl;have r_j : w86.cell? ⟨b_l,1,none⟩ = some (.int .i64 0):=(a_a b_z.out 1).trans rfl;have r_k:=a_e b_z.out 0;have r_l:=a_e b_z.out 1))
  refine bodyPost_ret (c_d rfl _ _ b_l 24 #[.slice none 0 0,.int .i64 0] (0,0) _ rfl (by (with_reducible repeat (first|refine a_j ?_ _|refine a_l ?_|refine a_i ?_ _));refine a_E (cs:=#[.slice none 0 0,.int .i64 0]) ?_ 1 _ rfl;(with_reducible repeat (first|refine a_j ?_ _|refine a_l ?_|refine a_i ?_ _));refine a_E (cs:=#[.slice none 0 0,.int .i64 0]) ?_ 0 _ rfl;(with_reducible repeat (first|refine a_j ?_ _|refine a_l ?_|refine a_i ?_ _));exact b_z.out) Try.underlying24 rfl (by kernel_rfl)) rfl ?_
  exact ⟨_,by first|rfl|(simp [a_v,a_u] <;> rfl)|(simp [*, a_v,a_u] <;> rfl),by first|exact Kd.i_v _ _ _ _ _|exact Kd.i_l _ _ _ _ _|exact Kd.f_R _ _ _ _ _|exact Kd.i_0 _ _ _ _ _|exact Kd.g_m _ _ _ _ _,by repeat (first|(with_reducible first|exact HB.out|apply a_g|apply a_b|apply a_h|refine a_f ?_ c_a.out|refine a_f ?_ c_J.out|refine a_f ?_ d_i.out)|exact HB.out)⟩
 rw [if_pos c4] at H
 have c4b0 : (t135 == 0) = true:=beq_iff_eq.mpr c4
 have c4b1 : (t135 != 0) = false:=bne_eq_false_iff_eq.mpr c4
 clear c4
 replace H:=Option.bind_eq_some_iff.mp H
 obtain ⟨t136,A50,H⟩:=H
 replace H : (if t136 = true then (if a1_0 < a0_1 then (some (([] : List (S27)),0,2)) else ((c_Y.f l0_0).bind fun t137 => (if (t137.length : Int) > 0 then (if 0 ≤ (wrap64 ((t137.length : Int) - 1)) then (if (wrap64 ((t137.length : Int) - 1)) < (t137.length : Int) then (a_R.j0 k t137 (t137.length : Int) (((a_p t137 (wrap64 ((t137.length : Int) - 1))).f0) == a1_0) a1_0 l1_1) else (none)) else (none)) else (a_R.j0 k t137 (t137.length : Int) false a1_0 l1_1)))) else (some (([] : List (S27)),0,2))) = some (r1,r2,r3):=H
 have A5:=a_c.mk A50
 clear A50
 by_cases c6 : t136 = true
 rotate_left
 ·replace c6:=Bool.eq_false_iff.mpr c6
  subst c6
  have H1 : (some (([] : List (S27)),0,2)) = some (r1,r2,r3):=by rw [if_neg (show ¬ (false = true) by decide)] at H;exact H
  clear H
  have H:=H1
  clear H1
  simp only [Option.some.injEq,Prod.mk.injEq] at H
  obtain ⟨rfl,rfl,rfl⟩:=H
  go_enter Try.func10,Try.ntmps10
  go_wp2_with (first|((with_reducible refine a_M (N:=2) rfl ?_);refine a_G ?hg (N:=2) ?hd (cs:=#[.slice A0_0 l0_0.length c0_0,.int .i64 a0_1]) (t:=24) ?hr ?_;(case hd => rfl);(case hg => rfl);(case hr => first|(go_simp;done)|(go_simp;rfl));intro b_I hg w69 hbox hb;have b_j:=a_c.mk (hbox);have n_p:=a_c.mk ((by rw [hg];exact (a_n (lup_ HB.out)) : w.heap.size ≤ b_I));have c_a:=a_c.mk ((by rw [hg];exact (a_n (lup_ HB.out)) : w.heap.size ≤ b_I));replace b_o:=a_c.mk (Kd.b_c (Kd.b_w (by (with_reducible repeat (first|apply Kd.a_Z|apply Kd.a_0|apply Kd.a_6));exact b_o.out) b_I (Nat.le_of_eq hg.symm)) hb);replace b_8:=a_c.mk (Kd.b_c (Kd.b_w (by (with_reducible repeat (first|apply Kd.a_Z|apply Kd.a_0|apply Kd.a_6));exact b_8.out) b_I (Nat.le_of_eq hg.symm)) hb);replace HB:=a_c.mk (a_o (lup_ HB.out) hb);clear hb hbox hg)|((with_reducible refine a_M (N:=3) rfl ?_);refine a_G ?hg (N:=3) ?hd (cs:=#[.int .i64 a1_0,.slice A1_1 l1_1.length c1_1]) (t:=27) ?hr ?_;(case hd => rfl);(case hg => rfl);(case hr => first|(go_simp;done)|(go_simp;rfl));intro b_E hg w70 hbox hb;have b_p:=a_c.mk (hbox);have n_q:=a_c.mk ((by rw [hg];exact (a_n (by repeat (first|(with_reducible first|exact HB.out|apply a_g|apply a_b|apply a_h|refine a_f ?_ c_a.out)|exact HB.out))) : w.heap.size ≤ b_E));have c_J:=a_c.mk ((by rw [hg];exact (a_n (by repeat (first|(with_reducible first|exact HB.out|apply a_g|apply a_b|apply a_h|refine a_f ?_ c_a.out)|exact HB.out))) : w.heap.size ≤ b_E));have d_B:=a_c.mk ((by rw [hg];exact Nat.ne_of_lt (a_J (bup_ b_j.out)) : b_I ≠ b_E));have d_C:=a_c.mk ((by rw [hg];exact Nat.ne_of_gt (a_J (bup_ b_j.out)) : b_E ≠ b_I));replace b_o:=a_c.mk (Kd.b_c (Kd.b_w (by (with_reducible repeat (first|apply Kd.a_Z|apply Kd.a_0|apply Kd.a_6));exact b_o.out) b_E (Nat.le_of_eq hg.symm)) hb);replace b_8:=a_c.mk (Kd.b_c (Kd.b_w (by (with_reducible repeat (first|apply Kd.a_Z|apply Kd.a_0|apply Kd.a_6));exact b_8.out) b_E (Nat.le_of_eq hg.symm)) hb);replace b_j:=a_c.mk (a_m (bup_ b_j.out) hb);replace HB:=a_c.mk (a_o (by repeat (first|(with_reducible first|exact HB.out|apply a_g|apply a_b|apply a_h|refine a_f ?_ c_a.out)|exact HB.out)) hb);clear hb hbox hg)|((with_reducible refine a_M (N:=4) rfl ?_);refine a_G ?hg (N:=4) ?hd (cs:=#[.slice none 0 0,.int .i64 0]) (t:=24) ?hr ?_;(case hd => rfl);(case hg => rfl);(case hr => first|(go_simp;done)|(go_simp;rfl));intro b_l hg w71 hbox hb;have b_z:=a_c.mk (hbox);have n_r:=a_c.mk ((by rw [hg];exact (a_n (by repeat (first|(with_reducible first|exact HB.out|apply a_g|apply a_b|apply a_h|refine a_f ?_ c_a.out|refine a_f ?_ c_J.out)|exact HB.out))) : w.heap.size ≤ b_l));have d_i:=a_c.mk ((by rw [hg];exact (a_n (by repeat (first|(with_reducible first|exact HB.out|apply a_g|apply a_b|apply a_h|refine a_f ?_ c_a.out|refine a_f ?_ c_J.out)|exact HB.out))) : w.heap.size ≤ b_l));have c_G:=a_c.mk ((by rw [hg];exact Nat.ne_of_lt (a_J (bup_ b_j.out)) : b_I ≠ b_l));have c_H:=a_c.mk ((by rw [hg];exact Nat.ne_of_gt (a_J (bup_ b_j.out)) : b_l ≠ b_I));have b_L:=a_c.mk ((by rw [hg];exact Nat.ne_of_lt (a_J (bup_ b_p.out)) : b_E ≠ b_l));have c_I:=a_c.mk ((by rw [hg];exact Nat.ne_of_gt (a_J (bup_ b_p.out)) : b_l ≠ b_E));replace b_o:=a_c.mk (Kd.b_c (Kd.b_w (by (with_reducible repeat (first|apply Kd.a_Z|apply Kd.a_0|apply Kd.a_6));exact b_o.out) b_l (Nat.le_of_eq hg.symm)) hb);replace b_8:=a_c.mk (Kd.b_c (Kd.b_w (by (with_reducible repeat (first|apply Kd.a_Z|apply Kd.a_0|apply Kd.a_6));exact b_8.out) b_l (Nat.le_of_eq hg.symm)) hb);replace b_j:=a_c.mk (a_m (bup_ b_j.out) hb);replace b_p:=a_c.mk (a_m (bup_ b_p.out) hb);replace HB:=a_c.mk (a_o (by repeat (first|(with_reducible first|exact HB.out|apply a_g|apply a_b|apply a_h|refine a_f ?_ c_a.out|refine a_f ?_ c_J.out)|exact HB.out)) hb);clear hb hbox hg;have t_W:=d_B.out;have t_X:=d_C.out;have t_Y:=c_G.out;have t_Z:=c_H.out;have r_m : w71.cell? ⟨b_I,0,none⟩ = some (.slice A0_0 l0_0.length c0_0):=(a_a b_j.out 0).trans rfl;have r_n : w71.cell? ⟨b_I,1,none⟩ = some (.int .i64 a0_1):=(a_a b_j.out 1).trans rfl;have r_o:=a_e b_j.out 0;have r_p:=a_e b_j.out 1)|((with_reducible refine b_a (f:=14) rfl ?_);refine c_K (some 10) rfl rfl Try.func14 (by kernel_rfl) rfl #[.agg #[.slice A0_0 l0_0.length c0_0,.int .i64 a0_1]] rfl (by (try simp only [List.map_toArray,List.map_cons,List.map_nil]);first|done|rfl|(simp only [List.length_drop,List.length_take];rfl)) ?_;(with_reducible refine (a_t.calls k _ _ l0_0 a0_1 t135 _ ?side1 ?side2 A3.out).mono ?_);(case side1 => repeat (first|exact (Kd.b_C b_o.out).2.2|(with_reducible refine Kd.a_8 ?_ _)|(with_reducible refine Kd.a_7 ?_ _)|(with_reducible refine Kd.b_t ?_)));(case side2 => exact (Kd.b_C b_o.out).2.1);rintro e w75 ⟨rfl,hb⟩;refine ⟨_,rfl,?_⟩;replace b_o:=a_c.mk (Kd.b_c (by (with_reducible repeat (first|apply Kd.a_Z|apply Kd.a_0|apply Kd.a_6));exact b_o.out) hb);replace b_8:=a_c.mk (Kd.b_c (by (with_reducible repeat (first|apply Kd.a_Z|apply Kd.a_0|apply Kd.a_6));exact b_8.out) hb);replace b_j:=a_c.mk (a_m (bup_ b_j.out) hb);replace b_p:=a_c.mk (a_m (bup_ b_p.out) hb);replace b_z:=a_c.mk (a_m (bup_ b_z.out) hb);replace HB:=a_c.mk (a_o (by repeat (first|(with_reducible first|exact HB.out|apply a_g|apply a_b|apply a_h|refine a_f ?_ c_a.out|refine a_f ?_ c_J.out|refine a_f ?_ d_i.out)|exact HB.out)) hb);(try clear hb);(try clear hb2);(try clear hk);(try clear hi);have t_0:=b_L.out;have t_1:=c_I.out;have r_q : w75.cell? ⟨b_E,0,none⟩ = some (.int .i64 a1_0):=(a_a b_p.out 0).trans rfl;have r_r : w75.cell? ⟨b_E,1,none⟩ = some (.slice A1_1 l1_1.length c1_1):=(a_a b_p.out 1).trans rfl;have r_s:=a_e b_p.out 0;have r_t:=a_e b_p.out 1)|((with_reducible refine b_a (f:=24) rfl ?_);refine c_K (some 15) rfl rfl Try.func24 (by kernel_rfl) rfl #[.agg #[.int .i64 a1_0,.slice A1_1 l1_1.length c1_1]] rfl (by (try simp only [List.map_toArray,List.map_cons,List.map_nil]);first|done|rfl|(simp only [List.length_drop,List.length_take];rfl)) ?_;(with_reducible refine (a_y.calls k a1_0 _ _ l1_1 false _ ?side1 ?side2 A5.out).mono ?_);(case side1 => repeat (first|exact (Kd.b_C b_8.out).2.2|(with_reducible refine Kd.a_8 ?_ _)|(with_reducible refine Kd.a_7 ?_ _)|(with_reducible refine Kd.b_t ?_)));(case side2 => exact (Kd.b_C b_8.out).2.1);rintro e w78 ⟨rfl,hb⟩;refine ⟨_,rfl,?_⟩;replace b_o:=a_c.mk (Kd.b_c (by (with_reducible repeat (first|apply Kd.a_Z|apply Kd.a_0|apply Kd.a_6));exact b_o.out) hb);replace b_8:=a_c.mk (Kd.b_c (by (with_reducible repeat (first|apply Kd.a_Z|apply Kd.a_0|apply Kd.a_6));exact b_8.out) hb);replace b_j:=a_c.mk (a_m (bup_ b_j.out) hb);replace b_p:=a_c.mk (a_m (bup_ b_p.out) hb);replace b_z:=a_c.mk (a_m (bup_ b_z.out) hb);replace HB:=a_c.mk (a_o (by repeat (first|(with_reducible first|exact HB.out|apply a_g|apply a_b|apply a_h|refine a_f ?_ c_a.out|refine a_f ?_ c_J.out|refine a_f ?_ d_i.out)|exact HB.out)) hb);(try clear hb);(try clear hb2);(try clear hk);(try clear hi);have h_E : w78.cell? ⟨b_l,0,none⟩ = some (.slice none 0 0):=(a_a b_z.out 0).trans rfl;have h_F : w78.cell? ⟨b_l,1,none⟩ = some (.int .i64 0):=(a_a b_z.out 1).trans rfl;have h_G:=a_e b_z.out 0;have h_H:=a_e b_z.out 1))
  refine bodyPost_ret (c_d rfl _ _ b_l 24 #[.slice none 0 0,.int .i64 0] (0,0) _ rfl (by (with_reducible repeat (first|refine a_j ?_ _|refine a_l ?_|refine a_i ?_ _));refine a_E (cs:=#[.slice none 0 0,.int .i64 0]) ?_ 1 _ rfl;(with_reducible repeat (first|refine a_j ?_ _|refine a_l ?_|refine a_i ?_ _));refine a_E (cs:=#[.slice none 0 0,.int .i64 0]) ?_ 0 _ rfl;(with_reducible repeat (first|refine a_j ?_ _|refine a_l ?_|refine a_i ?_ _));exact b_z.out) Try.underlying24 rfl (by kernel_rfl)) rfl ?_
  exact ⟨_,by first|rfl|(simp [a_v,a_u] <;> rfl)|(simp [*, a_v,a_u] <;> rfl),by first|exact Kd.i_v _ _ _ _ _|exact Kd.i_l _ _ _ _ _|exact Kd.f_R _ _ _ _ _|exact Kd.i_0 _ _ _ _ _|exact Kd.g_m _ _ _ _ _,by repeat (first|(with_reducible first|exact HB.out|apply a_g|apply a_b|apply a_h|refine a_f ?_ c_a.out|refine a_f ?_ c_J.out|refine a_f ?_ d_i.out)|exact HB.out)⟩
 subst c6
 have H1 : (if a1_0 < a0_1 then (some (([] : List (S27)),0,2)) else ((c_Y.f l0_0).bind fun t137 => (if (t137.length : Int) > 0 then (if 0 ≤ (wrap64 ((t137.length : Int) - 1)) then (if (wrap64 ((t137.length : Int) - 1)) < (t137.length : Int) then (a_R.j0 k t137 (t137.length : Int) (((a_p t137 (wrap64 ((t137.length : Int) - 1))).f0) == a1_0) a1_0 l1_1) else (none)) else (none)) else (a_R.j0 k t137 (t137.length : Int) false a1_0 l1_1)))) = some (r1,r2,r3):=by rw [if_pos rfl] at H;exact H
 clear H
 have H:=H1
 clear H1
 by_cases c7 : a1_0 < a0_1
 ·rw [if_pos c7] at H
  have c7b0 : decide (a1_0 < a0_1) = true:=decide_eq_true c7
  clear c7
  simp only [Option.some.injEq,Prod.mk.injEq] at H
  obtain ⟨rfl,rfl,rfl⟩:=H
  go_enter Try.func10,Try.ntmps10
  go_wp2_with (first|((with_reducible refine a_M (N:=2) rfl ?_);refine a_G ?hg (N:=2) ?hd (cs:=#[.slice A0_0 l0_0.length c0_0,.int .i64 a0_1]) (t:=24) ?hr ?_;(case hd => rfl);(case hg => rfl);(case hr => first|(go_simp;done)|(go_simp;rfl));intro b_I hg w8 hbox hb;have b_j:=a_c.mk (hbox);have n_p:=a_c.mk ((by rw [hg];exact (a_n (lup_ HB.out)) : w.heap.size ≤ b_I));have c_a:=a_c.mk ((by rw [hg];exact (a_n (lup_ HB.out)) : w.heap.size ≤ b_I));replace b_o:=a_c.mk (Kd.b_c (Kd.b_w (by (with_reducible repeat (first|apply Kd.a_Z|apply Kd.a_0|apply Kd.a_6));exact b_o.out) b_I (Nat.le_of_eq hg.symm)) hb);replace b_8:=a_c.mk (Kd.b_c (Kd.b_w (by (with_reducible repeat (first|apply Kd.a_Z|apply Kd.a_0|apply Kd.a_6));exact b_8.out) b_I (Nat.le_of_eq hg.symm)) hb);replace HB:=a_c.mk (a_o (lup_ HB.out) hb);clear hb hbox hg)|((with_reducible refine a_M (N:=3) rfl ?_);refine a_G ?hg (N:=3) ?hd (cs:=#[.int .i64 a1_0,.slice A1_1 l1_1.length c1_1]) (t:=27) ?hr ?_;(case hd => rfl);(case hg => rfl);(case hr => first|(go_simp;done)|(go_simp;rfl));intro b_E hg w9 hbox hb;have b_p:=a_c.mk (hbox);have n_q:=a_c.mk ((by rw [hg];exact (a_n (by repeat (first|(with_reducible first|exact HB.out|apply a_g|apply a_b|apply a_h|refine a_f ?_ c_a.out)|exact HB.out))) : w.heap.size ≤ b_E));have c_J:=a_c.mk ((by rw [hg];exact (a_n (by repeat (first|(with_reducible first|exact HB.out|apply a_g|apply a_b|apply a_h|refine a_f ?_ c_a.out)|exact HB.out))) : w.heap.size ≤ b_E));have d_B:=a_c.mk ((by rw [hg];exact Nat.ne_of_lt (a_J (bup_ b_j.out)) : b_I ≠ b_E));have d_C:=a_c.mk ((by rw [hg];exact Nat.ne_of_gt (a_J (bup_ b_j.out)) : b_E ≠ b_I));replace b_o:=a_c.mk (Kd.b_c (Kd.b_w (by (with_reducible repeat (first|apply Kd.a_Z|apply Kd.a_0|apply Kd.a_6));exact b_o.out) b_E (Nat.le_of_eq hg.symm)) hb);replace b_8:=a_c.mk (Kd.b_c (Kd.b_w (by (with_reducible repeat (first|apply Kd.a_Z|apply Kd.a_0|apply Kd.a_6));exact b_8.out) b_E (Nat.le_of_eq hg.symm)) hb);replace b_j:=a_c.mk (a_m (bup_ b_j.out) hb);replace HB:=a_c.mk (a_o (by repeat (first|(with_reducible first|exact HB.out|apply a_g|apply a_b|apply a_h|refine a_f ?_ c_a.out)|exact HB.out)) hb);clear hb hbox hg)|((with_reducible refine a_M (N:=4) rfl ?_);refine a_G ?hg (N:=4) ?hd (cs:=#[.slice none 0 0,.int .i64 0]) (t:=24) ?hr ?_;(case hd => rfl);(case hg => rfl);(case hr => first|(go_simp;done)|(go_simp;rfl));intro b_l hg w10 hbox hb;have b_z:=a_c.mk (hbox);have n_r:=a_c.mk ((by rw [hg];exact (a_n (by repeat (first|(with_reducible first|exact HB.out|apply a_g|apply a_b|apply a_h|refine a_f ?_ c_a.out|refine a_f ?_ c_J.out)|exact HB.out))) : w.heap.size ≤ b_l));have d_i:=a_c.mk ((by rw [hg];exact (a_n (by repeat (first|(with_reducible first|exact HB.out|apply a_g|apply a_b|apply a_h|refine a_f ?_ c_a.out|refine a_f ?_ c_J.out)|exact HB.out))) : w.heap.size ≤ b_l));have c_G:=a_c.mk ((by rw [hg];exact Nat.ne_of_lt (a_J (bup_ b_j.out)) : b_I ≠ b_l));have c_H:=a_c.mk ((by rw [hg];exact Nat.ne_of_gt (a_J (bup_ b_j.out)) : b_l ≠ b_I));have b_L:=a_c.mk ((by rw [hg];exact Nat.ne_of_lt (a_J (bup_ b_p.out)) : b_E ≠ b_l));have c_I:=a_c.mk ((by rw [hg];exact Nat.ne_of_gt (a_J (bup_ b_p.out)) : b_l ≠ b_E));replace b_o:=a_c.mk (Kd.b_c (Kd.b_w (by (with_reducible repeat (first|apply Kd.a_Z|apply Kd.a_0|apply Kd.a_6));exact b_o.out) b_l (Nat.le_of_eq hg.symm)) hb);replace b_8:=a_c.mk (Kd.b_c (Kd.b_w (by (with_reducible repeat (first|apply Kd.a_Z|apply Kd.a_0|apply Kd.a_6));exact b_8.out) b_l (Nat.le_of_eq hg.symm)) hb);replace b_j:=a_c.mk (a_m (bup_ b_j.out) hb);replace b_p:=a_c.mk (a_m (bup_ b_p.out) hb);replace HB:=a_c.mk (a_o (by repeat (first|(with_reducible first|exact HB.out|apply a_g|apply a_b|apply a_h|refine a_f ?_ c_a.out|refine a_f ?_ c_J.out)|exact HB.out)) hb);clear hb hbox hg;have t_2:=d_B.out;have t_3:=d_C.out;have o_o:=c_G.out;have o_p:=c_H.out;have f_b : w10.cell? ⟨b_I,0,none⟩ = some (.slice A0_0 l0_0.length c0_0):=(a_a b_j.out 0).trans rfl;have f_c : w10.cell? ⟨b_I,1,none⟩ = some (.int .i64 a0_1):=(a_a b_j.out 1).trans rfl;have f_d:=a_e b_j.out 0;have f_e:=a_e b_j.out 1)|((with_reducible refine b_a (f:=14) rfl ?_);refine c_K (some 10) rfl rfl Try.func14 (by kernel_rfl) rfl #[.agg #[.slice A0_0 l0_0.length c0_0,.int .i64 a0_1]] rfl (by (try simp only [List.map_toArray,List.map_cons,List.map_nil]);first|done|rfl|(simp only [List.length_drop,List.length_take];rfl)) ?_;(with_reducible refine (a_t.calls k _ _ l0_0 a0_1 t135 _ ?side1 ?side2 A3.out).mono ?_);(case side1 => repeat (first|exact (Kd.b_C b_o.out).2.2|(with_reducible refine Kd.a_8 ?_ _)|(with_reducible refine Kd.a_7 ?_ _)|(with_reducible refine Kd.b_t ?_)));(case side2 => exact (Kd.b_C b_o.out).2.1);rintro e w14 ⟨rfl,hb⟩;refine ⟨_,rfl,?_⟩;replace b_o:=a_c.mk (Kd.b_c (by (with_reducible repeat (first|apply Kd.a_Z|apply Kd.a_0|apply Kd.a_6));exact b_o.out) hb);replace b_8:=a_c.mk (Kd.b_c (by (with_reducible repeat (first|apply Kd.a_Z|apply Kd.a_0|apply Kd.a_6));exact b_8.out) hb);replace b_j:=a_c.mk (a_m (bup_ b_j.out) hb);replace b_p:=a_c.mk (a_m (bup_ b_p.out) hb);replace b_z:=a_c.mk (a_m (bup_ b_z.out) hb);replace HB:=a_c.mk (a_o (by repeat (first|(with_reducible first|exact HB.out|apply a_g|apply a_b|apply a_h|refine a_f ?_ c_a.out|refine a_f ?_ c_J.out|refine a_f ?_ d_i.out)|exact HB.out)) hb);(try clear hb);(try clear hb2);(try clear hk);(try clear hi);have o_i:=b_L.out;have o_j:=c_I.out;have d_P : w14.cell? ⟨b_E,0,none⟩ = some (.int .i64 a1_0):=(a_a b_p.out 0).trans rfl;have d_Q : w14.cell? ⟨b_E,1,none⟩ = some (.slice A1_1 l1_1.length c1_1):=(a_a b_p.out 1).trans rfl;have d_R:=a_e b_p.out 0;have d_S:=a_e b_p.out 1)|((with_reducible refine b_a (f:=24) rfl ?_);refine c_K (some 15) rfl rfl Try.func24 (by kernel_rfl) rfl #[.agg #[.int .i64 a1_0,.slice A1_1 l1_1.length c1_1]] rfl (by (try simp only [List.map_toArray,List.map_cons,List.map_nil]);first|done|rfl|(simp only [List.length_drop,List.length_take];rfl)) ?_;(with_reducible refine (a_y.calls k a1_0 _ _ l1_1 true _ ?side1 ?side2 A5.out).mono ?_);(case side1 => repeat (first|exact (Kd.b_C b_8.out).2.2|(with_reducible refine Kd.a_8 ?_ _)|(with_reducible refine Kd.a_7 ?_ _)|(with_reducible refine Kd.b_t ?_)));(case side2 => exact (Kd.b_C b_8.out).2.1);rintro e w17 ⟨rfl,hb⟩;refine ⟨_,rfl,?_⟩;replace b_o:=a_c.mk (Kd.b_c (by (with_reducible repeat (first|apply Kd.a_Z|apply Kd.a_0|apply Kd.a_6));exact b_o.out) hb);replace b_8:=a_c.mk (Kd.b_c (by (with_reducible repeat (first|apply Kd.a_Z|apply Kd.a_0|apply Kd.a_6));exact b_8.out) hb);replace b_j:=a_c.mk (a_m (bup_ b_j.out) hb);replace b_p:=a_c.mk (a_m (bup_ b_p.out) hb);replace b_z:=a_c.mk (a_m (bup_ b_z.out) hb);replace HB:=a_c.mk (a_o (by repeat (first|(with_reducible first|exact HB.out|apply a_g|apply a_b|apply a_h|refine a_f ?_ c_a.out|refine a_f ?_ c_J.out|refine a_f ?_ d_i.out)|exact HB.out)) hb);(try clear hb);(try clear hb2);(try clear hk);(try clear hi);have n_s : w17.cell? ⟨b_E,0,none⟩ = some (.int .i64 a1_0):=(a_a b_p.out 0).trans rfl;have n_t : w17.cell? ⟨b_E,1,none⟩ = some (.slice A1_1 l1_1.length c1_1):=(a_a b_p.out 1).trans rfl;have n_u:=a_e b_p.out 0;have n_v:=a_e b_p.out 1;have h_m : w17.cell? ⟨b_I,0,none⟩ = some (.slice A0_0 l0_0.length c0_0):=(a_a b_j.out 0).trans rfl;have h_n : w17.cell? ⟨b_I,1,none⟩ = some (.int .i64 a0_1):=(a_a b_j.out 1).trans rfl;have h_o:=a_e b_j.out 0;have h_p:=a_e b_j.out 1;have h_g : w17.cell? ⟨b_l,0,none⟩ = some (.slice none 0 0):=(a_a b_z.out 0).trans rfl;have j_5 : w17.cell? ⟨b_l,1,none⟩ = some (.int .i64 0):=(a_a b_z.out 1).trans rfl;have h_h:=a_e b_z.out 0;have j_6:=a_e b_z.out 1))
  refine bodyPost_ret (c_d rfl _ _ b_l 24 #[.slice none 0 0,.int .i64 0] (0,0) _ rfl (by (with_reducible repeat (first|refine a_j ?_ _|refine a_l ?_|refine a_i ?_ _));refine a_E (cs:=#[.slice none 0 0,.int .i64 0]) ?_ 1 _ rfl;(with_reducible repeat (first|refine a_j ?_ _|refine a_l ?_|refine a_i ?_ _));refine a_E (cs:=#[.slice none 0 0,.int .i64 0]) ?_ 0 _ rfl;(with_reducible repeat (first|refine a_j ?_ _|refine a_l ?_|refine a_i ?_ _));exact b_z.out) Try.underlying24 rfl (by kernel_rfl)) rfl ?_
  exact ⟨_,by first|rfl|(simp [a_v,a_u] <;> rfl)|(simp [*, a_v,a_u] <;> rfl),by first|exact Kd.i_v _ _ _ _ _|exact Kd.i_l _ _ _ _ _|exact Kd.f_R _ _ _ _ _|exact Kd.i_0 _ _ _ _ _|exact Kd.g_m _ _ _ _ _,by repeat (first|(with_reducible first|exact HB.out|apply a_g|apply a_b|apply a_h|refine a_f ?_ c_a.out|refine a_f ?_ c_J.out|refine a_f ?_ d_i.out)|exact HB.out)⟩
 rw [if_neg c7] at H
 have c7b0 : decide (a1_0 < a0_1) = false:=decide_eq_false c7
 clear c7
 replace H:=Option.bind_eq_some_iff.mp H
 obtain ⟨t137,A210,H⟩:=H
 replace H : (if (t137.length : Int) > 0 then (if 0 ≤ (wrap64 ((t137.length : Int) - 1)) then (if (wrap64 ((t137.length : Int) - 1)) < (t137.length : Int) then (a_R.j0 k t137 (t137.length : Int) (((a_p t137 (wrap64 ((t137.length : Int) - 1))).f0) == a1_0) a1_0 l1_1) else (none)) else (none)) else (a_R.j0 k t137 (t137.length : Int) false a1_0 l1_1)) = some (r1,r2,r3):=H
 have A21:=a_c.mk A210
 clear A210
 have HC22:=a_c.mk H
 clear H
 go_enter Try.func10,Try.ntmps10
 go_upto_region 7 with (first|((with_reducible refine a_M (N:=2) rfl ?_);refine a_G ?hg (N:=2) ?hd (cs:=#[.slice A0_0 l0_0.length c0_0,.int .i64 a0_1]) (t:=24) ?hr ?_;(case hd => rfl);(case hg => rfl);(case hr => first|(go_simp;done)|(go_simp;rfl));intro b_I hg w23 hbox hb;have b_j:=a_c.mk (hbox);have n_p:=a_c.mk ((by rw [hg];exact (a_n (lup_ HB.out)) : w.heap.size ≤ b_I));have c_a:=a_c.mk ((by rw [hg];exact (a_n (lup_ HB.out)) : w.heap.size ≤ b_I));replace b_o:=a_c.mk (Kd.b_c (Kd.b_w (by (with_reducible repeat (first|apply Kd.a_Z|apply Kd.a_0|apply Kd.a_6));exact b_o.out) b_I (Nat.le_of_eq hg.symm)) hb);replace b_8:=a_c.mk (Kd.b_c (Kd.b_w (by (with_reducible repeat (first|apply Kd.a_Z|apply Kd.a_0|apply Kd.a_6));exact b_8.out) b_I (Nat.le_of_eq hg.symm)) hb);replace HB:=a_c.mk (a_o (lup_ HB.out) hb);clear hb hbox hg)|((with_reducible refine a_M (N:=3) rfl ?_);refine a_G ?hg (N:=3) ?hd (cs:=#[.int .i64 a1_0,.slice A1_1 l1_1.length c1_1]) (t:=27) ?hr ?_;(case hd => rfl);(case hg => rfl);(case hr => first|(go_simp;done)|(go_simp;rfl));intro b_E hg w24 hbox hb;have b_p:=a_c.mk (hbox);have n_q:=a_c.mk ((by rw [hg];exact (a_n (by repeat (first|(with_reducible first|exact HB.out|apply a_g|apply a_b|apply a_h|refine a_f ?_ c_a.out)|exact HB.out))) : w.heap.size ≤ b_E));have c_J:=a_c.mk ((by rw [hg];exact (a_n (by repeat (first|(with_reducible first|exact HB.out|apply a_g|apply a_b|apply a_h|refine a_f ?_ c_a.out)|exact HB.out))) : w.heap.size ≤ b_E));have d_B:=a_c.mk ((by rw [hg];exact Nat.ne_of_lt (a_J (bup_ b_j.out)) : b_I ≠ b_E));have d_C:=a_c.mk ((by rw [hg];exact Nat.ne_of_gt (a_J (bup_ b_j.out)) : b_E ≠ b_I));replace b_o:=a_c.mk (Kd.b_c (Kd.b_w (by (with_reducible repeat (first|apply Kd.a_Z|apply Kd.a_0|apply Kd.a_6));exact b_o.out) b_E (Nat.le_of_eq hg.symm)) hb);replace b_8:=a_c.mk (Kd.b_c (Kd.b_w (by (with_reducible repeat (first|apply Kd.a_Z|apply Kd.a_0|apply Kd.a_6));exact b_8.out) b_E (Nat.le_of_eq hg.symm)) hb);replace b_j:=a_c.mk (a_m (bup_ b_j.out) hb);replace HB:=a_c.mk (a_o (by repeat (first|(with_reducible first|exact HB.out|apply a_g|apply a_b|apply a_h|refine a_f ?_ c_a.out)|exact HB.out)) hb);clear hb hbox hg)|((with_reducible refine a_M (N:=4) rfl ?_);refine a_G ?hg (N:=4) ?hd (cs:=#[.slice none 0 0,.int .i64 0]) (t:=24) ?hr ?_;(case hd => rfl);(case hg => rfl);(case hr => first|(go_simp;done)|(go_simp;rfl));intro b_l hg w25 hbox hb;have b_z:=a_c.mk (hbox);have n_r:=a_c.mk ((by rw [hg];exact (a_n (by repeat (first|(with_reducible first|exact HB.out|apply a_g|apply a_b|apply a_h|refine a_f ?_ c_a.out|refine a_f ?_ c_J.out)|exact HB.out))) : w.heap.size ≤ b_l));have d_i:=a_c.mk ((by rw [hg];exact (a_n (by repeat (first|(with_reducible first|exact HB.out|apply a_g|apply a_b|apply a_h|refine a_f ?_ c_a.out|refine a_f ?_ c_J.out)|exact HB.out))) : w.heap.size ≤ b_l));have c_G:=a_c.mk ((by rw [hg];exact Nat.ne_of_lt (a_J (bup_ b_j.out)) : b_I ≠ b_l));have c_H:=a_c.mk ((by rw [hg];exact Nat.ne_of_gt (a_J (bup_ b_j.out)) : b_l ≠ b_I));have b_L:=a_c.mk ((by rw [hg];exact Nat.ne_of_lt (a_J (bup_ b_p.out)) : b_E ≠ b_l));have c_I:=a_c.mk ((by rw [hg];exact Nat.ne_of_gt (a_J (bup_ b_p.out)) : b_l ≠ b_E));replace b_o:=a_c.mk (Kd.b_c (Kd.b_w (by (with_reducible repeat (first|apply Kd.a_Z|apply Kd.a_0|apply Kd.a_6));exact b_o.out) b_l (Nat.le_of_eq hg.symm)) hb);replace b_8:=a_c.mk (Kd.b_c (Kd.b_w (by (with_reducible repeat (first|apply Kd.a_Z|apply Kd.a_0|apply Kd.a_6));exact b_8.out) b_l (Nat.le_of_eq hg.symm)) hb);replace b_j:=a_c.mk (a_m (bup_ b_j.out) hb);replace b_p:=a_c.mk (a_m (bup_ b_p.out) hb);replace HB:=a_c.mk (a_o (by repeat (first|(with_reducible first|exact HB.out|apply a_g|apply a_b|apply a_h|refine a_f ?_ c_a.out|refine a_f ?_ c_J.out)|exact HB.out)) hb);clear hb hbox hg;have t_4:=d_B.out;have t_5:=d_C.out;have r_u:=c_G.out;have r_v:=c_H.out;have f_3 : w25.cell? ⟨b_I,0,none⟩ = some (.slice A0_0 l0_0.length c0_0):=(a_a b_j.out 0).trans rfl;have f_4 : w25.cell? ⟨b_I,1,none⟩ = some (.int .i64 a0_1):=(a_a b_j.out 1).trans rfl;have f_5:=a_e b_j.out 0;have f_6:=a_e b_j.out 1)|((with_reducible refine b_a (f:=14) rfl ?_);refine c_K (some 10) rfl rfl Try.func14 (by kernel_rfl) rfl #[.agg #[.slice A0_0 l0_0.length c0_0,.int .i64 a0_1]] rfl (by (try simp only [List.map_toArray,List.map_cons,List.map_nil]);first|done|rfl|(simp only [List.length_drop,List.length_take];rfl)) ?_;(with_reducible refine (a_t.calls k _ _ l0_0 a0_1 t135 _ ?side1 ?side2 A3.out).mono ?_);(case side1 => repeat (first|exact (Kd.b_C b_o.out).2.2|(with_reducible refine Kd.a_8 ?_ _)|(with_reducible refine Kd.a_7 ?_ _)|(with_reducible refine Kd.b_t ?_)));(case side2 => exact (Kd.b_C b_o.out).2.1);rintro e w29 ⟨rfl,hb⟩;refine ⟨_,rfl,?_⟩;replace b_o:=a_c.mk (Kd.b_c (by (with_reducible repeat (first|apply Kd.a_Z|apply Kd.a_0|apply Kd.a_6));exact b_o.out) hb);replace b_8:=a_c.mk (Kd.b_c (by (with_reducible repeat (first|apply Kd.a_Z|apply Kd.a_0|apply Kd.a_6));exact b_8.out) hb);replace b_j:=a_c.mk (a_m (bup_ b_j.out) hb);replace b_p:=a_c.mk (a_m (bup_ b_p.out) hb);replace b_z:=a_c.mk (a_m (bup_ b_z.out) hb);replace HB:=a_c.mk (a_o (by repeat (first|(with_reducible first|exact HB.out|apply a_g|apply a_b|apply a_h|refine a_f ?_ c_a.out|refine a_f ?_ c_J.out|refine a_f ?_ d_i.out)|exact HB.out)) hb);(try clear hb);(try clear hb2);(try clear hk);(try clear hi);have r_w:=b_L.out;have r_x:=c_I.out;have j_7 : w29.cell? ⟨b_E,0,none⟩ = some (.int .i64 a1_0):=(a_a b_p.out 0).trans rfl;have j_8 : w29.cell? ⟨b_E,1,none⟩ = some (.slice A1_1 l1_1.length c1_1):=(a_a b_p.out 1).trans rfl;have j_9:=a_e b_p.out 0;have k_a:=a_e b_p.out 1)|((with_reducible refine b_a (f:=24) rfl ?_);refine c_K (some 15) rfl rfl Try.func24 (by kernel_rfl) rfl #[.agg #[.int .i64 a1_0,.slice A1_1 l1_1.length c1_1]] rfl (by (try simp only [List.map_toArray,List.map_cons,List.map_nil]);first|done|rfl|(simp only [List.length_drop,List.length_take];rfl)) ?_;(with_reducible refine (a_y.calls k a1_0 _ _ l1_1 true _ ?side1 ?side2 A5.out).mono ?_);(case side1 => repeat (first|exact (Kd.b_C b_8.out).2.2|(with_reducible refine Kd.a_8 ?_ _)|(with_reducible refine Kd.a_7 ?_ _)|(with_reducible refine Kd.b_t ?_)));(case side2 => exact (Kd.b_C b_8.out).2.1);rintro e w32 ⟨rfl,hb⟩;refine ⟨_,rfl,?_⟩;replace b_o:=a_c.mk (Kd.b_c (by (with_reducible repeat (first|apply Kd.a_Z|apply Kd.a_0|apply Kd.a_6));exact b_o.out) hb);replace b_8:=a_c.mk (Kd.b_c (by (with_reducible repeat (first|apply Kd.a_Z|apply Kd.a_0|apply Kd.a_6));exact b_8.out) hb);replace b_j:=a_c.mk (a_m (bup_ b_j.out) hb);replace b_p:=a_c.mk (a_m (bup_ b_p.out) hb);replace b_z:=a_c.mk (a_m (bup_ b_z.out) hb);replace HB:=a_c.mk (a_o (by repeat (first|(with_reducible first|exact HB.out|apply a_g|apply a_b|apply a_h|refine a_f ?_ c_a.out|refine a_f ?_ c_J.out|refine a_f ?_ d_i.out)|exact HB.out)) hb);(try clear hb);(try clear hb2);(try clear hk);(try clear hi);have h_I : w32.cell? ⟨b_E,0,none⟩ = some (.int .i64 a1_0):=(a_a b_p.out 0).trans rfl;have h_J : w32.cell? ⟨b_E,1,none⟩ = some (.slice A1_1 l1_1.length c1_1):=(a_a b_p.out 1).trans rfl;have h_K:=a_e b_p.out 0;have h_L:=a_e b_p.out 1;have n_w : w32.cell? ⟨b_I,0,none⟩ = some (.slice A0_0 l0_0.length c0_0):=(a_a b_j.out 0).trans rfl;have n_x : w32.cell? ⟨b_I,1,none⟩ = some (.int .i64 a0_1):=(a_a b_j.out 1).trans rfl;have n_y:=a_e b_j.out 0;have n_z:=a_e b_j.out 1)|((with_reducible refine b_a (f:=25) rfl ?_);refine c_K (some 27) rfl rfl Try.func25 (by kernel_rfl) rfl #[.slice A0_0 l0_0.length c0_0] rfl (by (try simp only [List.map_toArray,List.map_cons,List.map_nil]);first|done|rfl|(simp only [List.length_drop,List.length_take];rfl)) ?_;(with_reducible refine (c_Y.calls (fun k_ => (((((P0_0_ k_ ∨ P1_1_ k_) ∨ w.heap.size ≤ k_) ∧ k_ ≠ b_I) ∧ k_ ≠ b_E) ∧ k_ ≠ b_l)) _ _ l0_0 t137 _ ?side1 A21.out).mono ?_);(case side1 => exact b_o.out);rintro e w35 ⟨v138,rfl,ho0,hb⟩;refine ⟨_,rfl,?_⟩;have e_T:=a_c.mk (Kd.g_Q (Kd.d_1 (ok':=fun k_ => ((P0_0_ k_ ∨ P1_1_ k_) ∨ w.heap.size ≤ k_) ∧ k_ ≠ b_I ∧ k_ ≠ b_E ∧ k_ ≠ b_l) ho0 (fun k_ hk_ => ⟨Or.elim hk_ (fun hs_ => hs_.1.1.1) (fun hn_ => (.inr (Nat.le_trans (a_n (by repeat (first|(with_reducible first|exact HB.out|apply a_g|apply a_b|apply a_h|refine a_f ?_ c_a.out|refine a_f ?_ c_J.out|refine a_f ?_ d_i.out)|exact HB.out))) hn_))),Or.elim hk_ (fun hs_ => hs_.1.1.2) (fun hn_ => (Kd.e_g (g:=b_I) (o:=.cells #[.slice A0_0 l0_0.length c0_0,.int .i64 a0_1] 24 (0,0)) (bup_ b_j.out) k_ hn_)),Or.elim hk_ (fun hs_ => hs_.1.2) (fun hn_ => (Kd.e_g (g:=b_E) (o:=.cells #[.int .i64 a1_0,.slice A1_1 l1_1.length c1_1] 27 (0,0)) (bup_ b_p.out) k_ hn_)),Or.elim hk_ (fun hs_ => hs_.2) (fun hn_ => (Kd.e_g (g:=b_l) (o:=.cells #[.slice none 0 0,.int .i64 0] 24 (0,0)) (bup_ b_z.out) k_ hn_))⟩)) (a_n (by repeat (first|(with_reducible first|exact HB.out|apply a_g|apply a_b|apply a_h|refine a_f ?_ c_a.out|refine a_f ?_ c_J.out|refine a_f ?_ d_i.out)|exact HB.out))));replace b_o:=a_c.mk (Kd.e_q (by (with_reducible repeat (first|apply Kd.a_Z|apply Kd.a_0|apply Kd.a_6));exact b_o.out) (Kd.i_C ho0) hb);replace b_8:=a_c.mk (Kd.e_q (by (with_reducible repeat (first|apply Kd.a_Z|apply Kd.a_0|apply Kd.a_6));exact b_8.out) (Kd.i_C ho0) hb);replace b_j:=a_c.mk (a_m (bup_ b_j.out) hb);replace b_p:=a_c.mk (a_m (bup_ b_p.out) hb);replace b_z:=a_c.mk (a_m (bup_ b_z.out) hb);replace HB:=a_c.mk (a_o (by repeat (first|(with_reducible first|exact HB.out|apply a_g|apply a_b|apply a_h|refine a_f ?_ c_a.out|refine a_f ?_ c_J.out|refine a_f ?_ d_i.out)|exact HB.out)) hb);(try clear hb);(try clear hb2);(try clear hk);(try clear hi);(try clear ho0);obtain ⟨Ao36,co36,eo36⟩:=Kd.e_9 e_T.out;subst eo36))
 (try simp only [Act.put,sa_,sb_,sc_])
 go_cut [42] (fun v42 wc => ∃ (kq : Nat) (x42_21 : Bool),v42 = .bool x42_21 ∧ a_c (a_R.j0 kq t137 (t137.length : Int) x42_21 a1_0 l1_1 = some (r1,r2,r3)) ∧ a_c (kq ≤ k) ∧ a_c (Kd.N k27 27 wc w.heap.size (fun k_ => ((P0_0_ k_ ∨ P1_1_ k_) ∨ w.heap.size ≤ k_) ∧ k_ ≠ b_I ∧ k_ ≠ b_E ∧ k_ ≠ b_l) (.slice Ao36 t137.length co36) t137) ∧ a_c (Kd.V k27 27 wc w.heap.size (fun k_ => ((P0_0_ k_ ∨ P1_1_ k_) ∨ w.heap.size ≤ k_) ∧ some k_ ≠ ((.slice Ao36 t137.length co36) : Value).ownBlock ∧ k_ ≠ b_I ∧ k_ ≠ b_E ∧ k_ ≠ b_l) (.slice A0_0 l0_0.length c0_0) l0_0) ∧ a_c (Kd.V k65 65 wc w.heap.size (fun k_ => ((P0_0_ k_ ∨ P1_1_ k_) ∨ w.heap.size ≤ k_) ∧ some k_ ≠ ((.slice Ao36 t137.length co36) : Value).ownBlock ∧ k_ ≠ b_I ∧ k_ ≠ b_E ∧ k_ ≠ b_l) (.slice A1_1 l1_1.length c1_1) l1_1) ∧ a_c (wc.heap[b_I]? = some (.cells #[(.slice A0_0 l0_0.length c0_0),.int .i64 a0_1] 24 (0,0))) ∧ a_c (wc.heap[b_E]? = some (.cells #[.int .i64 a1_0,(.slice A1_1 l1_1.length c1_1)] 27 (0,0))) ∧ a_c (wc.heap[b_l]? = some (.cells #[(.slice none 0 0),.int .i64 0] 24 (0,0))) ∧ a_c (Below w.heap.size w wc))
 case first =>
  have H:=HC22.out
  clear HC22
  by_cases c37 : (t137.length : Int) > 0
  rotate_left
  ·rw [if_neg c37] at H
   have c37b0 : decide (0 < (t137.length : Int)) = false:=decide_eq_false c37
   have c37b1 : decide (0 < t137.length) = false:=decide_eq_false (by omega)
   clear c37
   (first|rw [c37b0]|(simp only [a_r,a_s];rw [c37b0])|skip)
   have H':=a_c.mk H
   clear H
   try go_wp2
   replace b_o:=a_c.mk (Kd.a_6 b_o.out)
   replace b_8:=a_c.mk (Kd.a_6 b_8.out)
   replace e_T:=a_c.mk (Kd.d_c e_T.out)
   replace b_j:=a_c.mk (a_l b_j.out)
   replace b_p:=a_c.mk (a_l b_p.out)
   replace b_z:=a_c.mk (a_l b_z.out)
   replace HB:=a_c.mk (a_h HB.out)
   refine d_n (n:=13) (S:=fun w' => True) (ds:=[]) #[F_,F_,F_,F_,F_,F_,F_,F_,F_,F_,F_,F_,F_] (by kernel_rfl) rfl rfl trivial (fun hHeld => ?_);refine b_9 a_R.tab7 a_R.n_T (fun HT_ HW_ => ?_)
   generalize w35.drew = w42 at b_o b_8 e_T b_j b_p b_z HB hHeld ⊢
   refine a_x (i:=0) (N:=some 30) (v:=?_) (a':=?_) #[T_,F_,F_,F_,F_,F_,F_,F_,F_,F_,F_,F_,F_] rfl rfl (a_q HT_.out (by kernel_rfl)) (fun _ _ _ h => h) (Or.inl ⟨by rfl,?_⟩) ?_ ?_
   rotate_left
   ·intro w'
    go_simp
    with_reducible rfl
   rotate_left
   ·simp only [Act.put,sa_,sb_,sc_,a_r,a_s]
    rfl
   refine a_x (i:=1) (N:=some 31) (v:=?_) (a':=?_) #[T_,T_,F_,F_,F_,F_,F_,F_,F_,F_,F_,F_,F_] rfl rfl (a_q HT_.out (by kernel_rfl)) (fun _ _ _ h => h) (Or.inl ⟨by rfl,?_⟩) ?_ ?_
   rotate_left
   ·intro w'
    go_simp
    with_reducible rfl
   rotate_left
   ·simp only [Act.put,sa_,sb_,sc_,a_r,a_s]
    rfl
   refine a_x (i:=2) (N:=some 32) (v:=?_) (a':=?_) #[T_,T_,T_,F_,F_,F_,F_,F_,F_,F_,F_,F_,F_] rfl rfl (a_q HT_.out (by kernel_rfl)) (fun _ _ _ h => h) (Or.inl ⟨by rfl,?_⟩) ?_ ?_
   rotate_left
   ·intro w'
    go_simp
    with_reducible rfl
   rotate_left
   ·simp only [Act.put,sa_,sb_,sc_,a_r,a_s]
    rfl
   refine a_x (i:=3) (N:=some 33) (v:=undef) (a':=?_) #[T_,T_,T_,T_,F_,F_,F_,F_,F_,F_,F_,F_,F_] rfl rfl (a_q HT_.out (by kernel_rfl)) (fun _ _ _ h => h) (Or.inr ⟨by rfl,rfl⟩) ?_ ?_
   rotate_left
   ·simp only [Act.put,sa_,sb_,sc_,a_r,a_s]
    rfl
   refine a_x (i:=4) (N:=some 34) (v:=undef) (a':=?_) #[T_,T_,T_,T_,T_,F_,F_,F_,F_,F_,F_,F_,F_] rfl rfl (a_q HT_.out (by kernel_rfl)) (fun _ _ _ h => h) (Or.inr ⟨by rfl,rfl⟩) ?_ ?_
   rotate_left
   ·simp only [Act.put,sa_,sb_,sc_,a_r,a_s]
    rfl
   refine a_x (i:=5) (N:=some 35) (v:=undef) (a':=?_) #[T_,T_,T_,T_,T_,T_,F_,F_,F_,F_,F_,F_,F_] rfl rfl (a_q HT_.out (by kernel_rfl)) (fun _ _ _ h => h) (Or.inr ⟨by rfl,rfl⟩) ?_ ?_
   rotate_left
   ·simp only [Act.put,sa_,sb_,sc_,a_r,a_s]
    rfl
   refine a_x (i:=6) (N:=some 36) (v:=undef) (a':=?_) #[T_,T_,T_,T_,T_,T_,T_,F_,F_,F_,F_,F_,F_] rfl rfl (a_q HT_.out (by kernel_rfl)) (fun _ _ _ h => h) (Or.inr ⟨by rfl,rfl⟩) ?_ ?_
   rotate_left
   ·simp only [Act.put,sa_,sb_,sc_,a_r,a_s]
    rfl
   refine a_x (i:=7) (N:=some 37) (v:=undef) (a':=?_) #[T_,T_,T_,T_,T_,T_,T_,T_,F_,F_,F_,F_,F_] rfl rfl (a_q HT_.out (by kernel_rfl)) (fun _ _ _ h => h) (Or.inr ⟨by rfl,rfl⟩) ?_ ?_
   rotate_left
   ·simp only [Act.put,sa_,sb_,sc_,a_r,a_s]
    rfl
   refine a_x (i:=8) (N:=some 38) (v:=undef) (a':=?_) #[T_,T_,T_,T_,T_,T_,T_,T_,T_,F_,F_,F_,F_] rfl rfl (a_q HT_.out (by kernel_rfl)) (fun _ _ _ h => h) (Or.inr ⟨by rfl,rfl⟩) ?_ ?_
   rotate_left
   ·simp only [Act.put,sa_,sb_,sc_,a_r,a_s]
    rfl
   refine a_x (i:=9) (N:=some 39) (v:=undef) (a':=?_) #[T_,T_,T_,T_,T_,T_,T_,T_,T_,T_,F_,F_,F_] rfl rfl (a_q HT_.out (by kernel_rfl)) (fun _ _ _ h => h) (Or.inr ⟨by rfl,rfl⟩) ?_ ?_
   rotate_left
   ·simp only [Act.put,sa_,sb_,sc_,a_r,a_s]
    rfl
   refine a_x (i:=10) (N:=some 40) (v:=undef) (a':=?_) #[T_,T_,T_,T_,T_,T_,T_,T_,T_,T_,T_,F_,F_] rfl rfl (a_q HT_.out (by kernel_rfl)) (fun _ _ _ h => h) (Or.inr ⟨by rfl,rfl⟩) ?_ ?_
   rotate_left
   ·simp only [Act.put,sa_,sb_,sc_,a_r,a_s]
    rfl
   refine a_x (i:=11) (N:=some 41) (v:=undef) (a':=?_) #[T_,T_,T_,T_,T_,T_,T_,T_,T_,T_,T_,T_,F_] rfl rfl (a_q HT_.out (by kernel_rfl)) (fun _ _ _ h => h) (Or.inr ⟨by rfl,rfl⟩) ?_ ?_
   rotate_left
   ·simp only [Act.put,sa_,sb_,sc_,a_r,a_s]
    rfl
   refine a_x (i:=12) (N:=some 42) (v:=?_) (a':=?_) #[T_,T_,T_,T_,T_,T_,T_,T_,T_,T_,T_,T_,T_] rfl rfl (a_q HT_.out (by kernel_rfl)) (fun _ _ _ h => h) (Or.inl ⟨by rfl,?_⟩) ?_ ?_
   rotate_left
   ·intro w'
    go_simp
    with_reducible rfl
   rotate_left
   ·simp only [Act.put,sa_,sb_,sc_,a_r,a_s]
    rfl
   refine d_3 (c_U HT_.out (by kernel_rfl)) ?_
   try go_wp2
   go_meet
   case rel => exact ⟨_,(false),(by first|rfl|(simp;done)|(simp [*];done)),H',⟨by first|omega|exact Nat.le_refl _⟩,⟨by (with_reducible repeat (first|apply Kd.c_3|apply Kd.c_4|apply Kd.d_c));exact e_T.out⟩,⟨by (with_reducible repeat (first|apply Kd.a_Z|apply Kd.a_0|apply Kd.a_6));exact Kd.c_O b_o.out (fun _ hk => ⟨hk.1.1.1.1,⟨hk.2,⟨hk.1.1.1.2,⟨hk.1.1.2,hk.1.2⟩⟩⟩⟩)⟩,⟨by (with_reducible repeat (first|apply Kd.a_Z|apply Kd.a_0|apply Kd.a_6));exact Kd.c_O b_8.out (fun _ hk => ⟨hk.1.1.1.1,⟨hk.2,⟨hk.1.1.1.2,⟨hk.1.1.2,hk.1.2⟩⟩⟩⟩)⟩,⟨by (with_reducible repeat (first|refine a_j ?_ _|refine a_l ?_|refine a_i ?_ _));exact b_j.out⟩,⟨by (with_reducible repeat (first|refine a_j ?_ _|refine a_l ?_|refine a_i ?_ _));exact b_p.out⟩,⟨by (with_reducible repeat (first|refine a_j ?_ _|refine a_l ?_|refine a_i ?_ _));exact b_z.out⟩,⟨by repeat (first|(with_reducible first|exact HB.out|apply a_g|apply a_b|apply a_h|refine a_f ?_ c_a.out|refine a_f ?_ c_J.out|refine a_f ?_ d_i.out)|exact HB.out)⟩⟩
  rw [if_pos c37] at H
  have c37b0 : decide (0 < (t137.length : Int)) = true:=decide_eq_true c37
  have c37b1 : decide (0 < t137.length) = true:=decide_eq_true (by omega)
  clear c37
  (first|rw [c37b0]|(simp only [a_r,a_s];rw [c37b0])|skip)
  obtain ⟨ji38,hji38⟩ : ∃ j_ : Int,(wrap64 ((t137.length : Int) - 1)) = j_:=⟨_,rfl⟩
  replace H : (if 0 ≤ (ji38) then (if (ji38) < (t137.length : Int) then (a_R.j0 k t137 (t137.length : Int) (((a_p t137 (ji38)).f0) == a1_0) a1_0 l1_1) else (none)) else (none)) = some (r1,r2,r3):=by first|(rw [hji38] at H;exact H)|(simp only [hji38] at H ⊢; exact H)
  have hji38w : (IntKind.i64.wrap ((t137.length : Int) - 1)) = ji38:=(a_r _).trans hji38
  by_cases c39 : 0 ≤ (ji38)
  rotate_left
  ·rw [if_neg c39] at H
   exact absurd H (by simp)
  rw [if_pos c39] at H
  have c39b0 : decide (0 ≤ (ji38)) = true:=decide_eq_true c39
  clear c39
  by_cases c40 : (ji38) < (t137.length : Int)
  rotate_left
  ·rw [if_neg c40] at H
   exact absurd H (by simp)
  rw [if_pos c40] at H
  have c40b0 : decide ((ji38) < (t137.length : Int)) = true:=decide_eq_true c40
  clear c40
  have H':=a_c.mk H
  clear H
  try go_wp2
  replace b_o:=a_c.mk (Kd.a_6 b_o.out)
  replace b_8:=a_c.mk (Kd.a_6 b_8.out)
  replace e_T:=a_c.mk (Kd.d_c e_T.out)
  replace b_j:=a_c.mk (a_l b_j.out)
  replace b_p:=a_c.mk (a_l b_p.out)
  replace b_z:=a_c.mk (a_l b_z.out)
  replace HB:=a_c.mk (a_h HB.out)
  have p140 : 0 ≤ ((ji38) : Int):=of_decide_eq_true (by first|(with_reducible assumption)|assumption)
  have q140 : (ji38) < (t137.length : Int):=of_decide_eq_true (by first|(with_reducible assumption)|assumption)
  obtain ⟨ad140,A140_1,c140_1,e140,h_M,g_f,k_b,k_d⟩:=d_K (Kd.e_d e_T.out).2.2 (ji38) p140 q140
  cases e140
  obtain ⟨ce140,hce140,hMe140,hcc140⟩:=Kd.p_p e_T.out z27 (ji38) p140 (by first|exact q140|exact of_decide_eq_true (by first|(with_reducible assumption)|assumption)|(have e_:=(Kd.e_d e_T.out).1;omega))
  obtain ⟨ua140_1,uc140_1,rfl,ul140_1,ge140_1⟩:=i_G hMe140
  have hv140_1:=hcc140 1 _ rfl
  rw [c_F _ _ 1 (by omega)] at hv140_1
  replace hv140_1:=Option.some.inj (hv140_1.symm.trans g_f)
  injection hv140_1 with hva_ hvn_ hvc_
  rw [hva_] at ge140_1
  rw [hvc_] at ul140_1
  have HL140_1:=a_c.mk (show Kd.V k65 65 _ w.heap.size _ _ ((a_p t137 (ji38)).f1) from Kd.V_mk ul140_1 ge140_1)
  clear hva_ hvn_ hvc_ ge140_1 ul140_1 hcc140 hce140
  have n_A:=a_c.mk k_d
  have r_y:=a_c.mk k_b
  clear k_d k_b
  replace p140:=eq_true p140
  replace q140:=eq_true q140
  refine d_n (n:=13) (S:=fun w' => w'.cell? ⟨b_E,0,none⟩ = some (.int .i64 a1_0) ∧ w'.cell? ⟨b_E,1,none⟩ = some (.slice A1_1 l1_1.length c1_1) ∧ w'.cell? (ad140.add (((ji38)).toNat * 2)) = some (.int .i64 ((a_p t137 (ji38)).f0)) ∧ w'.cell? ⟨(ad140.add (((ji38)).toNat * 2)).block,(ad140.add (((ji38)).toNat * 2)).off + 1,none⟩ = some (.slice A140_1 ((a_p t137 (ji38)).f1).length c140_1)) (ds:=[]) #[F_,F_,F_,F_,F_,F_,F_,F_,F_,F_,F_,F_,F_] (by kernel_rfl) rfl rfl ⟨(a_a b_p.out 0).trans rfl,(a_a b_p.out 1).trans rfl,h_M,g_f⟩ (fun hHeld => ?_);refine b_9 a_R.tab7 a_R.n_T (fun HT_ HW_ => ?_)
  generalize w35.drew = w41 at b_o b_8 e_T b_j b_p b_z HB HL140_1 n_A h_M g_f hHeld ⊢
  refine a_x (i:=0) (N:=some 30) (v:=?_) (a':=?_) #[T_,F_,F_,F_,F_,F_,F_,F_,F_,F_,F_,F_,F_] rfl rfl (a_q HT_.out (by kernel_rfl)) (fun _ _ _ h => h) (Or.inl ⟨by rfl,?_⟩) ?_ ?_
  rotate_left
  ·intro w'
   go_simp
   with_reducible rfl
  rotate_left
  ·simp only [Act.put,sa_,sb_,sc_,a_r,a_s]
   rfl
  refine a_x (i:=1) (N:=some 31) (v:=?_) (a':=?_) #[T_,T_,F_,F_,F_,F_,F_,F_,F_,F_,F_,F_,F_] rfl rfl (a_q HT_.out (by kernel_rfl)) (fun _ _ _ h => h) (Or.inl ⟨by rfl,?_⟩) ?_ ?_
  rotate_left
  ·intro w'
   go_simp
   with_reducible rfl
  rotate_left
  ·simp only [Act.put,sa_,sb_,sc_,a_r,a_s]
   rfl
  refine a_x (i:=2) (N:=some 32) (v:=?_) (a':=?_) #[T_,T_,T_,F_,F_,F_,F_,F_,F_,F_,F_,F_,F_] rfl rfl (a_q HT_.out (by kernel_rfl)) (fun _ _ _ h => h) (Or.inl ⟨by rfl,?_⟩) ?_ ?_
  rotate_left
  ·intro w'
   go_simp
   with_reducible rfl
  rotate_left
  ·simp only [Act.put,sa_,sb_,sc_,a_r,a_s]
   rfl
  refine a_x (i:=3) (N:=some 33) (v:=?_) (a':=?_) #[T_,T_,T_,T_,F_,F_,F_,F_,F_,F_,F_,F_,F_] rfl rfl (a_q HT_.out (by kernel_rfl)) (fun _ _ _ h => h) (Or.inl ⟨by rfl,?_⟩) ?_ ?_
  rotate_left
  ·intro w'
   go_simp
   with_reducible rfl
  rotate_left
  ·simp only [Act.put,sa_,sb_,sc_,a_r,a_s]
   rfl
  refine a_x (i:=4) (N:=some 34) (v:=?_) (a':=?_) #[T_,T_,T_,T_,T_,F_,F_,F_,F_,F_,F_,F_,F_] rfl rfl (a_q HT_.out (by kernel_rfl)) (fun _ _ _ h => h) (Or.inl ⟨by rfl,?_⟩) ?_ ?_
  rotate_left
  ·intro w'
   go_simp
   with_reducible rfl
  rotate_left
  ·simp only [Act.put,sa_,sb_,sc_,a_r,a_s]
   rfl
  refine a_x (i:=5) (N:=some 35) (v:=?_) (a':=?_) #[T_,T_,T_,T_,T_,T_,F_,F_,F_,F_,F_,F_,F_] rfl rfl (a_q HT_.out (by kernel_rfl)) (fun _ _ _ h => h) (Or.inl ⟨by rfl,?_⟩) ?_ ?_
  rotate_left
  ·intro w'
   go_simp
   with_reducible rfl
  rotate_left
  ·simp only [Act.put,sa_,sb_,sc_,a_r,a_s]
   rfl
  refine a_x (i:=6) (N:=some 36) (v:=?_) (a':=?_) #[T_,T_,T_,T_,T_,T_,T_,F_,F_,F_,F_,F_,F_] rfl rfl (a_q HT_.out (by kernel_rfl)) (fun _ _ _ h => h) (Or.inl ⟨by rfl,?_⟩) ?_ ?_
  rotate_left
  ·intro w'
   go_simp
   with_reducible rfl
  rotate_left
  ·simp only [Act.put,sa_,sb_,sc_,a_r,a_s]
   rfl
  refine a_x (i:=7) (N:=some 37) (v:=?_) (a':=?_) #[T_,T_,T_,T_,T_,T_,T_,T_,F_,F_,F_,F_,F_] rfl rfl (a_q HT_.out (by kernel_rfl)) (fun _ _ _ h => h) (Or.inl ⟨by rfl,?_⟩) ?_ ?_
  rotate_left
  ·intro w'
   go_simp
   with_reducible rfl
  rotate_left
  ·simp only [Act.put,sa_,sb_,sc_,a_r,a_s]
   rfl
  refine a_x (i:=9) (N:=some 39) (v:=?_) (a':=?_) #[T_,T_,T_,T_,T_,T_,T_,T_,F_,T_,F_,F_,F_] rfl rfl (a_q HT_.out (by kernel_rfl)) (fun _ _ _ h => h) (Or.inl ⟨by rfl,?_⟩) ?_ ?_
  rotate_left
  ·intro w'
   go_simp
   with_reducible rfl
  rotate_left
  ·simp only [Act.put,sa_,sb_,sc_,a_r,a_s]
   rfl
  refine b_F (i:=8) (N:=some 38) (v:=?_) (a':=?_) #[T_,T_,T_,T_,T_,T_,T_,T_,T_,T_,F_,F_,F_] rfl rfl (a_Q HT_.out HW_.out (by kernel_rfl)) (fun _ _ _ h => h) (Or.inl ⟨by rfl,?_⟩) hHeld ?_ ?_
  rotate_left
  ·rintro w' ⟨s0,s1,s2,s3⟩
   go_simp
   with_reducible rfl
  rotate_left
  ·simp only [Act.put,sa_,sb_,sc_,a_r,a_s]
   rfl
  refine b_F (i:=10) (N:=some 40) (v:=?_) (a':=?_) #[T_,T_,T_,T_,T_,T_,T_,T_,T_,T_,T_,F_,F_] rfl rfl (a_Q HT_.out HW_.out (by kernel_rfl)) (fun _ _ _ h => h) (Or.inl ⟨by rfl,?_⟩) hHeld ?_ ?_
  rotate_left
  ·rintro w' ⟨s0,s1,s2,s3⟩
   go_simp
   with_reducible rfl
  rotate_left
  ·simp only [Act.put,sa_,sb_,sc_,a_r,a_s]
   rfl
  refine a_x (i:=11) (N:=some 41) (v:=?_) (a':=?_) #[T_,T_,T_,T_,T_,T_,T_,T_,T_,T_,T_,T_,F_] rfl rfl (a_q HT_.out (by kernel_rfl)) (fun _ _ _ h => h) (Or.inl ⟨by rfl,?_⟩) ?_ ?_
  rotate_left
  ·intro w'
   go_simp
   with_reducible rfl
  rotate_left
  ·simp only [Act.put,sa_,sb_,sc_,a_r,a_s]
   rfl
  refine a_x (i:=12) (N:=some 42) (v:=?_) (a':=?_) #[T_,T_,T_,T_,T_,T_,T_,T_,T_,T_,T_,T_,T_] rfl rfl (a_q HT_.out (by kernel_rfl)) (fun _ _ _ h => h) (Or.inl ⟨by rfl,?_⟩) ?_ ?_
  rotate_left
  ·intro w'
   go_simp
   with_reducible rfl
  rotate_left
  ·simp only [Act.put,sa_,sb_,sc_,a_r,a_s]
   rfl
  refine d_3 (c_U HT_.out (by kernel_rfl)) ?_
  try go_wp2
  go_meet
  case rel => exact ⟨_,((((a_p t137 (ji38)).f0) == a1_0)),(by first|rfl|(simp;done)|(simp only [← hji38] <;> (first|rfl|simp))|(simp [*];done)),H',⟨by first|omega|exact Nat.le_refl _⟩,⟨by (with_reducible repeat (first|apply Kd.c_3|apply Kd.c_4|apply Kd.d_c));exact e_T.out⟩,⟨by (with_reducible repeat (first|apply Kd.a_Z|apply Kd.a_0|apply Kd.a_6));exact Kd.c_O b_o.out (fun _ hk => ⟨hk.1.1.1.1,⟨hk.2,⟨hk.1.1.1.2,⟨hk.1.1.2,hk.1.2⟩⟩⟩⟩)⟩,⟨by (with_reducible repeat (first|apply Kd.a_Z|apply Kd.a_0|apply Kd.a_6));exact Kd.c_O b_8.out (fun _ hk => ⟨hk.1.1.1.1,⟨hk.2,⟨hk.1.1.1.2,⟨hk.1.1.2,hk.1.2⟩⟩⟩⟩)⟩,⟨by (with_reducible repeat (first|refine a_j ?_ _|refine a_l ?_|refine a_i ?_ _));exact b_j.out⟩,⟨by (with_reducible repeat (first|refine a_j ?_ _|refine a_l ?_|refine a_i ?_ _));exact b_p.out⟩,⟨by (with_reducible repeat (first|refine a_j ?_ _|refine a_l ?_|refine a_i ?_ _));exact b_z.out⟩,⟨by repeat (first|(with_reducible first|exact HB.out|apply a_g|apply a_b|apply a_h|refine a_f ?_ c_a.out|refine a_f ?_ c_J.out|refine a_f ?_ d_i.out)|exact HB.out)⟩⟩
 case rest =>
  clear HC22
  try clear c1
  try clear p1
  try clear q1
  try clear hx1
  try clear c2
  try clear p2
  try clear c3
  try clear c4
  try clear c4b0
  try clear c4b1
  try clear c6
  try clear p6
  try clear c7
  try clear c7b0
  try clear c10
  try clear c11
  try clear c12
  try clear c14
  try clear p14
  try clear q14
  try clear hx14
  try clear c15
  try clear c24
  try clear c25
  try clear c26
  try clear c27
  try clear c30
  try clear c37
  try clear c37b0
  try clear c37b1
  try clear c39
  try clear c39b0
  try clear c40
  try clear c40b0
  try clear f_b
  try clear f_c
  try clear d_P
  try clear d_Q
  try clear n_s
  try clear n_t
  try clear h_m
  try clear h_n
  try clear h_g
  try clear j_5
  try clear f_3
  try clear f_4
  try clear j_7
  try clear j_8
  try clear h_I
  try clear h_J
  try clear n_w
  try clear n_x
  try clear f_d
  try clear f_e
  try clear d_R
  try clear d_S
  try clear n_u
  try clear n_v
  try clear h_o
  try clear h_p
  try clear h_h
  try clear j_6
  try clear f_5
  try clear f_6
  try clear j_9
  try clear k_a
  try clear h_K
  try clear h_L
  try clear n_y
  try clear n_z
  try clear h_M
  try clear g_f
  try clear p140
  try clear q140
  obtain ⟨kq,x42_21,rfl,HA,HJ21,HO_6,c_1,c_C,b_j,b_p,b_z,HB⟩:=hcut
  cases kq with
  | zero => exact absurd HA.out (by simp [a_R.j0])
  | succ kj21 =>
   have H:=HA.out
   clear HA
   simp only [a_R.j0] at H
   by_cases c43 : x42_21 = true
   rotate_left
   ·replace c43:=Bool.eq_false_iff.mpr c43
    subst c43
    have H1 : (if (t137.length : Int) = 2000 then (some (([] : List (S27)),0,6)) else (if t137.length < 4398046511104 then (some ((t137 ++ [(⟨a1_0,l1_1⟩ : S27)]),a1_0,0)) else (none))) = some (r1,r2,r3):=by rw [if_neg (show ¬ (false = true) by decide)] at H;exact H
    clear H
    have H:=H1
    clear H1
    by_cases c59 : (t137.length : Int) = 2000
    ·rw [if_pos c59] at H
     have c59b0 : ((t137.length : Int) == 2000) = true:=beq_iff_eq.mpr c59
     have c59b1 : ((t137.length : Int) != 2000) = false:=bne_eq_false_iff_eq.mpr c59
     clear c59
     simp only [Option.some.injEq,Prod.mk.injEq] at H
     obtain ⟨rfl,rfl,rfl⟩:=H
     have t_6:=c_H.out
     have t_7:=c_G.out
     have t_8:=c_I.out
     have t_9:=b_L.out
     have r_z : wc.cell? ⟨b_l,0,none⟩ = some (.slice none 0 0):=(a_a b_z.out 0).trans rfl
     have r_A : wc.cell? ⟨b_l,1,none⟩ = some (.int .i64 0):=(a_a b_z.out 1).trans rfl
     have r_B:=a_e b_z.out 0
     have r_C:=a_e b_z.out 1
     go_wp2
     refine bodyPost_ret (c_d rfl _ _ b_l 24 #[.slice none 0 0,.int .i64 0] (0,0) _ rfl (by (with_reducible repeat (first|refine a_j ?_ _|refine a_l ?_|refine a_i ?_ _));refine a_E (cs:=#[.slice none 0 0,.int .i64 0]) ?_ 1 _ rfl;(with_reducible repeat (first|refine a_j ?_ _|refine a_l ?_|refine a_i ?_ _));refine a_E (cs:=#[.slice none 0 0,.int .i64 0]) ?_ 0 _ rfl;(with_reducible repeat (first|refine a_j ?_ _|refine a_l ?_|refine a_i ?_ _));exact b_z.out) Try.underlying24 rfl (by kernel_rfl)) rfl ?_
     exact ⟨_,by first|rfl|(simp [a_v,a_u] <;> rfl)|(simp [*, a_v,a_u] <;> rfl),by first|exact Kd.i_v _ _ _ _ _|exact Kd.i_l _ _ _ _ _|exact Kd.f_R _ _ _ _ _|exact Kd.i_0 _ _ _ _ _|exact Kd.g_m _ _ _ _ _,by repeat (first|(with_reducible first|exact HB.out|apply a_g|apply a_b|apply a_h|refine a_f ?_ c_a.out|refine a_f ?_ c_J.out|refine a_f ?_ d_i.out)|exact HB.out)⟩
    rw [if_neg c59] at H
    have c59b0 : ((t137.length : Int) == 2000) = false:=beq_eq_false_iff_ne.mpr c59
    have c59b1 : ((t137.length : Int) != 2000) = true:=bne_iff_ne.mpr c59
    by_cases c63 : t137.length < 4398046511104
    rotate_left
    ·rw [if_neg c63] at H
     exact absurd H (by simp)
    rw [if_pos c63] at H
    have LMc63:=a_c.mk c63
    clear c63
    obtain ⟨y147,hy147⟩ : ∃ y_ : List (S27),y_ = (t137 ++ [(⟨a1_0,l1_1⟩ : S27)]):=⟨_,rfl⟩
    replace H : (some (y147,a1_0,0)) = some (r1,r2,r3):=by first|(rw [hy147];with_reducible exact H)|(have H2_:=(Option.bind_some _ _).symm.trans H;rw [hy147];with_reducible exact H2_)|(have H2_:=(Option.bind_some _ _).symm.trans H;with_reducible exact H2_)|with_reducible exact H|(rw [hy147];exact H)|exact H
    have Ny147:=a_c.mk hy147
    clear hy147
    simp only [Option.some.injEq,Prod.mk.injEq] at H
    obtain ⟨rfl,rfl,rfl⟩:=H
    try go_wp2
    replace HO_6:=a_c.mk (Kd.d_c HO_6.out)
    replace c_1:=a_c.mk (Kd.a_6 c_1.out)
    replace c_C:=a_c.mk (Kd.a_6 c_C.out)
    replace b_j:=a_c.mk (a_l b_j.out)
    replace b_p:=a_c.mk (a_l b_p.out)
    replace b_z:=a_c.mk (a_l b_z.out)
    replace HB:=a_c.mk (a_h HB.out)
    refine d_n (n:=9) (S:=fun w' => w'.cell? ⟨b_E,0,none⟩ = some (.int .i64 a1_0) ∧ w'.cell? ⟨b_E,1,none⟩ = some (.slice A1_1 l1_1.length c1_1)) (ds:=[]) #[F_,F_,F_,F_,F_,F_,F_,F_,F_] (by kernel_rfl) rfl rfl ⟨(a_a b_p.out 0).trans rfl,(a_a b_p.out 1).trans rfl⟩ (fun hHeld => ?_);refine b_9 a_R.n_O a_R.l_W (fun HT_ HW_ => ?_)
    generalize wc.drew = w64 at HO_6 c_1 c_C b_j b_p b_z HB hHeld ⊢
    refine a_x (i:=0) (N:=some 51) (v:=?_) (a':=?_) #[T_,F_,F_,F_,F_,F_,F_,F_,F_] rfl rfl (a_q HT_.out (by kernel_rfl)) (fun _ _ _ h => h) (Or.inl ⟨by rfl,?_⟩) ?_ ?_
    rotate_left
    ·intro w'
     go_simp
     with_reducible rfl
    rotate_left
    ·simp only [Act.put,sa_,sb_,sc_,a_r,a_s]
     rfl
    refine a_x (i:=4) (N:=some 55) (v:=?_) (a':=?_) #[T_,F_,F_,F_,T_,F_,F_,F_,F_] rfl rfl (a_q HT_.out (by kernel_rfl)) (fun _ _ _ h => h) (Or.inl ⟨by rfl,?_⟩) ?_ ?_
    rotate_left
    ·intro w'
     go_simp
     with_reducible rfl
    rotate_left
    ·simp only [Act.put,sa_,sb_,sc_,a_r,a_s]
     rfl
    refine b_F (i:=1) (N:=some 52) (v:=?_) (a':=?_) #[T_,T_,F_,F_,T_,F_,F_,F_,F_] rfl rfl (a_Q HT_.out HW_.out (by kernel_rfl)) (fun _ _ _ h => h) (Or.inl ⟨by rfl,?_⟩) hHeld ?_ ?_
    rotate_left
    ·rintro w' ⟨s0,s1⟩
     go_simp
     with_reducible rfl
    rotate_left
    ·simp only [Act.put,sa_,sb_,sc_,a_r,a_s]
     rfl
    refine b_F (i:=5) (N:=some 56) (v:=?_) (a':=?_) #[T_,T_,F_,F_,T_,T_,F_,F_,F_] rfl rfl (a_Q HT_.out HW_.out (by kernel_rfl)) (fun _ _ _ h => h) (Or.inl ⟨by rfl,?_⟩) hHeld ?_ ?_
    rotate_left
    ·rintro w' ⟨s0,s1⟩
     go_simp
     with_reducible rfl
    rotate_left
    ·simp only [Act.put,sa_,sb_,sc_,a_r,a_s]
     rfl
    refine one_ (i:=2) (N:=some 53) #[T_,T_,T_,F_,T_,T_,F_,F_,F_] rfl rfl (c_B HT_.out (by kernel_rfl)) (by decide) (fun K hK => ?_)
    refine l_2 (w1:=?_) (v:=?_) (by rfl) rfl ?_ ?_
    rotate_left 2
    ·go_simp
     constructor
     ·rfl
     rfl
    refine hK.out _ _ ⟨(a_a (a_i b_p.out _) 0).trans rfl,(a_a (a_i b_p.out _) 1).trans rfl⟩ (fun hHeld => ?_)
    clear hK K
    refine d_k (a':=?_) ?_ ?_
    rotate_left
    ·show Act.put _ (some 53) _ = _
     simp only [Act.put,sa_,sb_,sc_,a_r,a_s]
     rfl
    refine one_ (i:=3) (N:=some 54) #[T_,T_,T_,T_,T_,T_,F_,F_,F_] rfl rfl (c_B HT_.out (by kernel_rfl)) (by decide) (fun K hK => ?_)
    refine Kd.e_p k27 (w0:=w) w.heap.size (by rfl) (.tmp 51) (.tmp 53) 22 27 (.agg #[(.int .i64 0),(.slice none 0 0)]) 32 rfl Try.underlying22 g_p rfl (by decide) (by omega) (.slice Ao36 t137.length co36) t137 (⟨a1_0,l1_1⟩ : S27) [.int .i64 a1_0,.slice A1_1 l1_1.length c1_1] (fun k_ => ((P0_0_ k_ ∨ P1_1_ k_) ∨ w.heap.size ≤ k_) ∧ k_ ≠ b_I ∧ k_ ≠ b_E ∧ k_ ≠ b_l) (fun k_ => ((fun k_ => ((P0_0_ k_ ∨ P1_1_ k_) ∨ w.heap.size ≤ k_) ∧ k_ ≠ b_I ∧ k_ ≠ b_E ∧ k_ ≠ b_l)) k_ ∧ some k_ ≠ (.slice Ao36 t137.length co36 : Value).ownBlock) rfl rfl ?aP (fun _ hk => hk) ?aF ?aO ?aB ?aS ?aL ?_
    (case aP => exact (i_L _ _ (⟨a1_0,l1_1⟩ : S27) (Kd.b_C (Kd.c_O (ok':=(fun k_ => ((fun k_ => ((P0_0_ k_ ∨ P1_1_ k_) ∨ w.heap.size ≤ k_) ∧ k_ ≠ b_I ∧ k_ ≠ b_E ∧ k_ ≠ b_l)) k_ ∧ some k_ ≠ (.slice Ao36 t137.length co36 : Value).ownBlock)) (c_C.out) (fun k_ hk => ⟨⟨hk.1,⟨hk.2.2.1,⟨hk.2.2.2.1,hk.2.2.2.2⟩⟩⟩,(by first|exact hk.2.1|exact own_ne hk.2.1)⟩))).2.1 (Kd.V_F (Kd.c_O (ok':=(fun k_ => ((fun k_ => ((P0_0_ k_ ∨ P1_1_ k_) ∨ w.heap.size ≤ k_) ∧ k_ ≠ b_I ∧ k_ ≠ b_E ∧ k_ ≠ b_l)) k_ ∧ some k_ ≠ (.slice Ao36 t137.length co36 : Value).ownBlock)) (c_C.out) (fun k_ hk => ⟨⟨hk.1,⟨hk.2.2.1,⟨hk.2.2.2.1,hk.2.2.2.2⟩⟩⟩,(by first|exact hk.2.1|exact own_ne hk.2.1)⟩)))))
    (case aB => exact (by repeat (first|(with_reducible first|exact HB.out|apply a_g|apply a_b|apply a_h|refine a_f ?_ c_a.out|refine a_f ?_ c_J.out|refine a_f ?_ d_i.out)|exact HB.out)))
    (case aF => exact (fun k_ hk => ⟨(.inr (Nat.le_trans (a_n (by repeat (first|(with_reducible first|exact HB.out|apply a_g|apply a_b|apply a_h|refine a_f ?_ c_a.out|refine a_f ?_ c_J.out|refine a_f ?_ d_i.out)|exact HB.out))) hk)),Kd.e_g (g:=b_I) (o:=.cells #[.slice A0_0 l0_0.length c0_0,.int .i64 a0_1] 24 (0,0)) (bup_ b_j.out) k_ hk,Kd.e_g (g:=b_E) (o:=.cells #[.int .i64 a1_0,.slice A1_1 l1_1.length c1_1] 27 (0,0)) (bup_ b_p.out) k_ hk,Kd.e_g (g:=b_l) (o:=.cells #[.slice none 0 0,.int .i64 0] 24 (0,0)) (bup_ b_z.out) k_ hk⟩))
    (case aO => exact (by (with_reducible repeat (first|apply Kd.c_3|apply Kd.c_4|apply Kd.d_c));exact HO_6.out))
    (case aS => exact (a_n (by repeat (first|(with_reducible first|exact HB.out|apply a_g|apply a_b|apply a_h|refine a_f ?_ c_a.out|refine a_f ?_ c_J.out|refine a_f ?_ d_i.out)|exact HB.out))))
    (case aL => have:=LMc63.out;omega)
    intro v148 w65 ho hb hg hat
    rw [← Ny147.out] at ho
    have o_r:=a_c.mk (ho)
    replace c_1:=a_c.mk (Kd.e_t (ok:=(fun k_ => ((P0_0_ k_ ∨ P1_1_ k_) ∨ w.heap.size ≤ k_) ∧ k_ ≠ b_I ∧ k_ ≠ b_E ∧ k_ ≠ b_l)) (by (with_reducible repeat (first|apply Kd.a_Z|apply Kd.a_0|apply Kd.a_6));exact Kd.c_O c_1.out (fun _ hk => ⟨⟨hk.1,⟨hk.2.2.1,⟨hk.2.2.2.1,hk.2.2.2.2⟩⟩⟩,(by first|exact hk.2.1|exact own_ne hk.2.1)⟩)) hg hat)
    replace c_C:=a_c.mk (Kd.e_t (ok:=(fun k_ => ((P0_0_ k_ ∨ P1_1_ k_) ∨ w.heap.size ≤ k_) ∧ k_ ≠ b_I ∧ k_ ≠ b_E ∧ k_ ≠ b_l)) (by (with_reducible repeat (first|apply Kd.a_Z|apply Kd.a_0|apply Kd.a_6));exact Kd.c_O c_C.out (fun _ hk => ⟨⟨hk.1,⟨hk.2.2.1,⟨hk.2.2.2.1,hk.2.2.2.2⟩⟩⟩,(by first|exact hk.2.1|exact own_ne hk.2.1)⟩)) hg hat)
    replace b_j:=a_c.mk (d_G (g:=b_I) (o:=.cells #[.slice A0_0 l0_0.length c0_0,.int .i64 a0_1] 24 (0,0)) (bup_ b_j.out) hg (Kd.N_ne HO_6.out b_j.out (by decide)))
    replace b_p:=a_c.mk (d_G (g:=b_E) (o:=.cells #[.int .i64 a1_0,.slice A1_1 l1_1.length c1_1] 27 (0,0)) (bup_ b_p.out) hg (Kd.l_Y HO_6.out (fun _ hk => hk.2.2.1)))
    replace b_z:=a_c.mk (d_G (g:=b_l) (o:=.cells #[.slice none 0 0,.int .i64 0] 24 (0,0)) (bup_ b_z.out) hg (Kd.N_ne HO_6.out b_z.out (by decide)))
    replace HB:=a_c.mk (hb)
    clear HO_6 ho hb hg hat
    obtain ⟨Ao66,co66,eo66⟩:=Kd.e_9 o_r.out
    (first|subst eo66|(injection eo66 with f1_ f2_ f3_;have f4_:=f1_.symm;have f5_:=f3_.symm;clear f1_ f2_ f3_;subst f4_;subst f5_))
    refine hK.out _ _ ⟨(a_a b_p.out 0).trans rfl,(a_a b_p.out 1).trans rfl⟩ (fun hHeld => ?_)
    clear hK K
    refine d_k (a':=?_) ?_ ?_
    rotate_left
    ·show Act.put _ (some 54) _ = _
     simp only [Act.put,sa_,sb_,sc_,a_r,a_s]
     rfl
    refine a_x (i:=6) (N:=some 57) (v:=?_) (a':=?_) #[T_,T_,T_,T_,T_,T_,T_,F_,F_] rfl rfl (a_q HT_.out (by kernel_rfl)) (fun _ _ _ h => h) (Or.inl ⟨by rfl,?_⟩) ?_ ?_
    rotate_left
    ·intro w'
     go_simp
     with_reducible rfl
    rotate_left
    ·simp only [Act.put,sa_,sb_,sc_,a_r,a_s]
     rfl
    refine one_ (i:=7) (N:=none) #[T_,T_,T_,T_,T_,T_,T_,T_,F_] rfl rfl (c_B HT_.out (by kernel_rfl)) (by decide) (fun K hK => ?_)
    have hs67 : w65.cell? ⟨b_l,0,none⟩ = some (.slice none 0 0):=(a_a b_z.out 0).trans rfl
    have hfs67:=a_e b_z.out 0
    have hns67_0:=c_G.out
    have hns67_1:=b_L.out
    have hms67_0:=c_H.out
    have hms67_1:=c_I.out
    have hs68 : w65.cell? ⟨b_l,1,none⟩ = some (.int .i64 0):=(a_a b_z.out 1).trans rfl
    have hfs68:=a_e b_z.out 1
    have hns68_0:=c_G.out
    have hns68_1:=b_L.out
    have hms68_0:=c_H.out
    have hms68_1:=c_I.out
    refine n_2 (w1:=?_) (by rfl) rfl ?_ ?_
    rotate_left
    ·go_simp
     rfl
    refine hK.out _ _ ⟨((cell_far (p:=⟨b_l,_,none⟩) b_L.out _).trans (((cell_far (p:=⟨b_l,_,none⟩) b_L.out _).trans (hHeld.1)))),((cell_far (p:=⟨b_l,_,none⟩) b_L.out _).trans (((cell_far (p:=⟨b_l,_,none⟩) b_L.out _).trans (hHeld.2))))⟩ (fun hHeld => ?_)
    clear hK K
    refine a_x (i:=8) (N:=some 5) (v:=?_) (a':=?_) #[T_,T_,T_,T_,T_,T_,T_,T_,T_] rfl rfl (a_q HT_.out (by kernel_rfl)) (fun _ _ _ h => h) (Or.inl ⟨by rfl,?_⟩) ?_ ?_
    rotate_left
    ·intro w'
     go_simp
     with_reducible rfl
    rotate_left
    ·simp only [Act.put,sa_,sb_,sc_,a_r,a_s]
     rfl
    refine d_3 (c_U HT_.out (by kernel_rfl)) ?_
    try go_wp2
    refine bodyPost_ret (c_d rfl _ _ b_l 24 #[.slice Ao66 y147.length co66,.int .i64 a1_0] (0,0) _ rfl (by (with_reducible repeat (first|refine a_j ?_ _|refine a_l ?_|refine a_i ?_ _));refine a_E (cs:=#[.slice Ao66 y147.length co66,.int .i64 0]) ?_ 1 _ rfl;(with_reducible repeat (first|refine a_j ?_ _|refine a_l ?_|refine a_i ?_ _));refine a_E (cs:=#[.slice none 0 0,.int .i64 0]) ?_ 0 _ rfl;(with_reducible repeat (first|refine a_j ?_ _|refine a_l ?_|refine a_i ?_ _));exact b_z.out) Try.underlying24 rfl (by kernel_rfl)) rfl ?_
    exact ⟨_,by first|rfl|(simp [a_v,a_u] <;> rfl)|(simp [*, a_v,a_u] <;> rfl),by (with_reducible repeat (first|apply Kd.c_3|apply Kd.c_4|apply Kd.d_c));exact Kd.d_1 (Kd.g_w (p:=⟨b_l,1,none⟩) (Kd.g_w (p:=⟨b_l,0,none⟩) (Kd.d_1 o_r.out (fun k_ hk => (⟨hk,hk.2.2.2⟩ : _ ∧ k_ ≠ b_l))) (fun _ hk => hk.2) (.slice Ao66 y147.length co66)) (fun _ hk => hk.2) (.int .i64 a1_0)) (fun _ hk => hk.1.1),by repeat (first|(with_reducible first|exact HB.out|apply a_g|apply a_b|apply a_h|refine a_f ?_ c_a.out|refine a_f ?_ c_J.out|refine a_f ?_ d_i.out)|exact HB.out)⟩
   subst c43
   have H1 : (if 0 ≤ (wrap64 ((t137.length : Int) - 1)) then (if (wrap64 ((t137.length : Int) - 1)) ≤ (t137.length : Int) then ((some (t137.take ((wrap64 ((t137.length : Int) - 1)) : Int).toNat : List (S27))).bind fun y141 => (if (y141.length : Int) = 2000 then (some (([] : List (S27)),0,6)) else (if y141.length < 4398046511104 then (some ((y141 ++ [(⟨a1_0,l1_1⟩ : S27)]),a1_0,0)) else (none)))) else (none)) else (none)) = some (r1,r2,r3):=by rw [if_pos rfl] at H;exact H
   clear H
   have H:=H1
   clear H1
   obtain ⟨ji44,hji44⟩ : ∃ j_ : Int,(wrap64 ((t137.length : Int) - 1)) = j_:=⟨_,rfl⟩
   replace H : (if 0 ≤ (ji44) then (if (ji44) ≤ (t137.length : Int) then ((some (t137.take ((ji44) : Int).toNat : List (S27))).bind fun y141 => (if (y141.length : Int) = 2000 then (some (([] : List (S27)),0,6)) else (if y141.length < 4398046511104 then (some ((y141 ++ [(⟨a1_0,l1_1⟩ : S27)]),a1_0,0)) else (none)))) else (none)) else (none)) = some (r1,r2,r3):=by first|(rw [hji44] at H;exact H)|(simp only [hji44] at H ⊢; exact H)
   have hji44w : (IntKind.i64.wrap ((t137.length : Int) - 1)) = ji44:=(a_r _).trans hji44
   by_cases c45 : 0 ≤ (ji44)
   rotate_left
   ·rw [if_neg c45] at H
    exact absurd H (by simp)
   rw [if_pos c45] at H
   have c45b0:=eq_true c45
   have c45b1 : decide (0 ≤ (ji44)) = true:=decide_eq_true c45
   clear c45
   by_cases c46 : (ji44) ≤ (t137.length : Int)
   rotate_left
   ·rw [if_neg c46] at H
    exact absurd H (by simp)
   rw [if_pos c46] at H
   have c46b0:=eq_true c46
   have c46b1 : decide ((ji44) ≤ (t137.length : Int)) = true:=decide_eq_true c46
   clear c46
   obtain ⟨y141,hy141⟩ : ∃ y_ : List (S27),y_ = (t137.take ((ji44) : Int).toNat):=⟨_,rfl⟩
   replace H : (if (y141.length : Int) = 2000 then (some (([] : List (S27)),0,6)) else (if y141.length < 4398046511104 then (some ((y141 ++ [(⟨a1_0,l1_1⟩ : S27)]),a1_0,0)) else (none))) = some (r1,r2,r3):=by first|(rw [hy141];with_reducible exact H)|(have H2_:=(Option.bind_some _ _).symm.trans H;rw [hy141];with_reducible exact H2_)|(have H2_:=(Option.bind_some _ _).symm.trans H;with_reducible exact H2_)|with_reducible exact H|(rw [hy141];exact H)|exact H
   have Ny141:=a_c.mk hy141
   clear hy141
   by_cases c47 : (y141.length : Int) = 2000
   ·rw [if_pos c47] at H
    have c47b0 : ((y141.length : Int) == 2000) = true:=beq_iff_eq.mpr c47
    have c47b1 : ((y141.length : Int) != 2000) = false:=bne_eq_false_iff_eq.mpr c47
    clear c47
    simp only [Option.some.injEq,Prod.mk.injEq] at H
    obtain ⟨rfl,rfl,rfl⟩:=H
    have q48 : ((ji44) : Int) ≤ ((t137.length : Int) : Int):=of_decide_eq_true (by first|(with_reducible assumption)|assumption)
    obtain ⟨i048,o_s,_,hsz48,_⟩:=info_parts g_p
    have hcut48:=l_X (P:=Try.prog) 22 27 .i64 Try.underlying22 o_s Ao36 t137.length co36 (ji44) (of_decide_eq_true (by first|(with_reducible assumption)|assumption)) q48 (Kd.e_d HO_6.out).2.1
    have hr48:=Kd.l_Z (m:=((ji44) : Int).toNat) HO_6.out (by omega)
    have hy48 : y141.length = ((ji44) : Int).toNat:=(by rw [Ny141.out,List.length_take];omega)
    rw [← Ny141.out] at hr48
    rw [← hy48] at hr48 hcut48
    clear hy48 o_s hsz48 HO_6
    have g_g:=a_c.mk hr48
    clear hr48
    replace q48:=eq_true q48
    have u_a:=c_H.out
    have u_b:=c_G.out
    have u_d:=c_I.out
    have u_e:=b_L.out
    have r_D : wc.cell? ⟨b_l,0,none⟩ = some (.slice none 0 0):=(a_a b_z.out 0).trans rfl
    have r_E : wc.cell? ⟨b_l,1,none⟩ = some (.int .i64 0):=(a_a b_z.out 1).trans rfl
    have r_F:=a_e b_z.out 0
    have r_G:=a_e b_z.out 1
    go_wp2
    refine bodyPost_ret (c_d rfl _ _ b_l 24 #[.slice none 0 0,.int .i64 0] (0,0) _ rfl (by (with_reducible repeat (first|refine a_j ?_ _|refine a_l ?_|refine a_i ?_ _));refine a_E (cs:=#[.slice none 0 0,.int .i64 0]) ?_ 1 _ rfl;(with_reducible repeat (first|refine a_j ?_ _|refine a_l ?_|refine a_i ?_ _));refine a_E (cs:=#[.slice none 0 0,.int .i64 0]) ?_ 0 _ rfl;(with_reducible repeat (first|refine a_j ?_ _|refine a_l ?_|refine a_i ?_ _));exact b_z.out) Try.underlying24 rfl (by kernel_rfl)) rfl ?_
    exact ⟨_,by first|rfl|(simp [a_v,a_u] <;> rfl)|(simp only [← hji44];first|rfl|(simp [a_v,a_u] <;> rfl))|(simp [*, a_v,a_u] <;> rfl),by first|exact Kd.i_v _ _ _ _ _|exact Kd.i_l _ _ _ _ _|exact Kd.f_R _ _ _ _ _|exact Kd.i_0 _ _ _ _ _|exact Kd.g_m _ _ _ _ _,by repeat (first|(with_reducible first|exact HB.out|apply a_g|apply a_b|apply a_h|refine a_f ?_ c_a.out|refine a_f ?_ c_J.out|refine a_f ?_ d_i.out)|exact HB.out)⟩
   rw [if_neg c47] at H
   have c47b0 : ((y141.length : Int) == 2000) = false:=beq_eq_false_iff_ne.mpr c47
   have c47b1 : ((y141.length : Int) != 2000) = true:=bne_iff_ne.mpr c47
   by_cases c52 : y141.length < 4398046511104
   rotate_left
   ·rw [if_neg c52] at H
    exact absurd H (by simp)
   rw [if_pos c52] at H
   have LMc52:=a_c.mk c52
   clear c52
   obtain ⟨y144,hy144⟩ : ∃ y_ : List (S27),y_ = (y141 ++ [(⟨a1_0,l1_1⟩ : S27)]):=⟨_,rfl⟩
   replace H : (some (y144,a1_0,0)) = some (r1,r2,r3):=by first|(rw [hy144];with_reducible exact H)|(have H2_:=(Option.bind_some _ _).symm.trans H;rw [hy144];with_reducible exact H2_)|(have H2_:=(Option.bind_some _ _).symm.trans H;with_reducible exact H2_)|with_reducible exact H|(rw [hy144];exact H)|exact H
   have Ny144:=a_c.mk hy144
   clear hy144
   simp only [Option.some.injEq,Prod.mk.injEq] at H
   obtain ⟨rfl,rfl,rfl⟩:=H
   have q53 : ((ji44) : Int) ≤ ((t137.length : Int) : Int):=of_decide_eq_true (by first|(with_reducible assumption)|assumption)
   obtain ⟨i053,o_t,_,hsz53,_⟩:=info_parts g_p
   have hcut53:=l_X (P:=Try.prog) 22 27 .i64 Try.underlying22 o_t Ao36 t137.length co36 (ji44) (of_decide_eq_true (by first|(with_reducible assumption)|assumption)) q53 (Kd.e_d HO_6.out).2.1
   have hr53:=Kd.l_Z (m:=((ji44) : Int).toNat) HO_6.out (by omega)
   have hy53 : y141.length = ((ji44) : Int).toNat:=(by rw [Ny141.out,List.length_take];omega)
   rw [← Ny141.out] at hr53
   rw [← hy53] at hr53 hcut53
   clear hy53 o_t hsz53 HO_6
   have g_g:=a_c.mk hr53
   clear hr53
   replace q53:=eq_true q53
   try go_wp2
   replace g_g:=a_c.mk (Kd.d_c g_g.out)
   replace c_1:=a_c.mk (Kd.a_6 c_1.out)
   replace c_C:=a_c.mk (Kd.a_6 c_C.out)
   replace b_j:=a_c.mk (a_l b_j.out)
   replace b_p:=a_c.mk (a_l b_p.out)
   replace b_z:=a_c.mk (a_l b_z.out)
   replace HB:=a_c.mk (a_h HB.out)
   refine d_n (n:=9) (S:=fun w' => w'.cell? ⟨b_E,0,none⟩ = some (.int .i64 a1_0) ∧ w'.cell? ⟨b_E,1,none⟩ = some (.slice A1_1 l1_1.length c1_1)) (ds:=[]) #[F_,F_,F_,F_,F_,F_,F_,F_,F_] (by kernel_rfl) rfl rfl ⟨(a_a b_p.out 0).trans rfl,(a_a b_p.out 1).trans rfl⟩ (fun hHeld => ?_);refine b_9 a_R.n_O a_R.l_W (fun HT_ HW_ => ?_)
   generalize wc.drew = w54 at g_g c_1 c_C b_j b_p b_z HB hHeld ⊢
   refine a_x (i:=0) (N:=some 51) (v:=?_) (a':=?_) #[T_,F_,F_,F_,F_,F_,F_,F_,F_] rfl rfl (a_q HT_.out (by kernel_rfl)) (fun _ _ _ h => h) (Or.inl ⟨by rfl,?_⟩) ?_ ?_
   rotate_left
   ·intro w'
    go_simp
    with_reducible rfl
   rotate_left
   ·simp only [Act.put,sa_,sb_,sc_,a_r,a_s]
    rfl
   refine a_x (i:=4) (N:=some 55) (v:=?_) (a':=?_) #[T_,F_,F_,F_,T_,F_,F_,F_,F_] rfl rfl (a_q HT_.out (by kernel_rfl)) (fun _ _ _ h => h) (Or.inl ⟨by rfl,?_⟩) ?_ ?_
   rotate_left
   ·intro w'
    go_simp
    with_reducible rfl
   rotate_left
   ·simp only [Act.put,sa_,sb_,sc_,a_r,a_s]
    rfl
   refine b_F (i:=1) (N:=some 52) (v:=?_) (a':=?_) #[T_,T_,F_,F_,T_,F_,F_,F_,F_] rfl rfl (a_Q HT_.out HW_.out (by kernel_rfl)) (fun _ _ _ h => h) (Or.inl ⟨by rfl,?_⟩) hHeld ?_ ?_
   rotate_left
   ·rintro w' ⟨s0,s1⟩
    go_simp
    with_reducible rfl
   rotate_left
   ·simp only [Act.put,sa_,sb_,sc_,a_r,a_s]
    rfl
   refine b_F (i:=5) (N:=some 56) (v:=?_) (a':=?_) #[T_,T_,F_,F_,T_,T_,F_,F_,F_] rfl rfl (a_Q HT_.out HW_.out (by kernel_rfl)) (fun _ _ _ h => h) (Or.inl ⟨by rfl,?_⟩) hHeld ?_ ?_
   rotate_left
   ·rintro w' ⟨s0,s1⟩
    go_simp
    with_reducible rfl
   rotate_left
   ·simp only [Act.put,sa_,sb_,sc_,a_r,a_s]
    rfl
   refine one_ (i:=2) (N:=some 53) #[T_,T_,T_,F_,T_,T_,F_,F_,F_] rfl rfl (c_B HT_.out (by kernel_rfl)) (by decide) (fun K hK => ?_)
   refine l_2 (w1:=?_) (v:=?_) (by rfl) rfl ?_ ?_
   rotate_left 2
   ·go_simp
    constructor
    ·rfl
    rfl
   refine hK.out _ _ ⟨(a_a (a_i b_p.out _) 0).trans rfl,(a_a (a_i b_p.out _) 1).trans rfl⟩ (fun hHeld => ?_)
   clear hK K
   refine d_k (a':=?_) ?_ ?_
   rotate_left
   ·show Act.put _ (some 53) _ = _
    simp only [Act.put,sa_,sb_,sc_,a_r,a_s]
    rfl
   refine one_ (i:=3) (N:=some 54) #[T_,T_,T_,T_,T_,T_,F_,F_,F_] rfl rfl (c_B HT_.out (by kernel_rfl)) (by decide) (fun K hK => ?_)
   refine Kd.e_p k27 (w0:=w) w.heap.size (by rfl) (.tmp 51) (.tmp 53) 22 27 (.agg #[(.int .i64 0),(.slice none 0 0)]) 32 rfl Try.underlying22 g_p rfl (by decide) (by omega) (.slice Ao36 y141.length co36) y141 (⟨a1_0,l1_1⟩ : S27) [.int .i64 a1_0,.slice A1_1 l1_1.length c1_1] (fun k_ => ((P0_0_ k_ ∨ P1_1_ k_) ∨ w.heap.size ≤ k_) ∧ k_ ≠ b_I ∧ k_ ≠ b_E ∧ k_ ≠ b_l) (fun k_ => ((fun k_ => ((P0_0_ k_ ∨ P1_1_ k_) ∨ w.heap.size ≤ k_) ∧ k_ ≠ b_I ∧ k_ ≠ b_E ∧ k_ ≠ b_l)) k_ ∧ some k_ ≠ (.slice Ao36 y141.length co36 : Value).ownBlock) rfl rfl ?aP (fun _ hk => hk) ?aF ?aO ?aB ?aS ?aL ?_
   (case aP => exact (i_L _ _ (⟨a1_0,l1_1⟩ : S27) (Kd.b_C (Kd.c_O (ok':=(fun k_ => ((fun k_ => ((P0_0_ k_ ∨ P1_1_ k_) ∨ w.heap.size ≤ k_) ∧ k_ ≠ b_I ∧ k_ ≠ b_E ∧ k_ ≠ b_l)) k_ ∧ some k_ ≠ (.slice Ao36 y141.length co36 : Value).ownBlock)) (c_C.out) (fun k_ hk => ⟨⟨hk.1,⟨hk.2.2.1,⟨hk.2.2.2.1,hk.2.2.2.2⟩⟩⟩,(by first|exact hk.2.1|exact own_ne hk.2.1)⟩))).2.1 (Kd.V_F (Kd.c_O (ok':=(fun k_ => ((fun k_ => ((P0_0_ k_ ∨ P1_1_ k_) ∨ w.heap.size ≤ k_) ∧ k_ ≠ b_I ∧ k_ ≠ b_E ∧ k_ ≠ b_l)) k_ ∧ some k_ ≠ (.slice Ao36 y141.length co36 : Value).ownBlock)) (c_C.out) (fun k_ hk => ⟨⟨hk.1,⟨hk.2.2.1,⟨hk.2.2.2.1,hk.2.2.2.2⟩⟩⟩,(by first|exact hk.2.1|exact own_ne hk.2.1)⟩)))))
   (case aB => exact (by repeat (first|(with_reducible first|exact HB.out|apply a_g|apply a_b|apply a_h|refine a_f ?_ c_a.out|refine a_f ?_ c_J.out|refine a_f ?_ d_i.out)|exact HB.out)))
   (case aF => exact (fun k_ hk => ⟨(.inr (Nat.le_trans (a_n (by repeat (first|(with_reducible first|exact HB.out|apply a_g|apply a_b|apply a_h|refine a_f ?_ c_a.out|refine a_f ?_ c_J.out|refine a_f ?_ d_i.out)|exact HB.out))) hk)),Kd.e_g (g:=b_I) (o:=.cells #[.slice A0_0 l0_0.length c0_0,.int .i64 a0_1] 24 (0,0)) (bup_ b_j.out) k_ hk,Kd.e_g (g:=b_E) (o:=.cells #[.int .i64 a1_0,.slice A1_1 l1_1.length c1_1] 27 (0,0)) (bup_ b_p.out) k_ hk,Kd.e_g (g:=b_l) (o:=.cells #[.slice none 0 0,.int .i64 0] 24 (0,0)) (bup_ b_z.out) k_ hk⟩))
   (case aO => exact (by (with_reducible repeat (first|apply Kd.c_3|apply Kd.c_4|apply Kd.d_c));exact g_g.out))
   (case aS => exact (a_n (by repeat (first|(with_reducible first|exact HB.out|apply a_g|apply a_b|apply a_h|refine a_f ?_ c_a.out|refine a_f ?_ c_J.out|refine a_f ?_ d_i.out)|exact HB.out))))
   (case aL => have:=LMc52.out;omega)
   intro v145 w55 ho hb hg hat
   rw [← Ny144.out] at ho
   have o_u:=a_c.mk (ho)
   replace c_1:=a_c.mk (Kd.e_t (ok:=(fun k_ => ((P0_0_ k_ ∨ P1_1_ k_) ∨ w.heap.size ≤ k_) ∧ k_ ≠ b_I ∧ k_ ≠ b_E ∧ k_ ≠ b_l)) (by (with_reducible repeat (first|apply Kd.a_Z|apply Kd.a_0|apply Kd.a_6));exact Kd.c_O c_1.out (fun _ hk => ⟨⟨hk.1,⟨hk.2.2.1,⟨hk.2.2.2.1,hk.2.2.2.2⟩⟩⟩,(by first|exact hk.2.1|exact own_ne hk.2.1)⟩)) hg hat)
   replace c_C:=a_c.mk (Kd.e_t (ok:=(fun k_ => ((P0_0_ k_ ∨ P1_1_ k_) ∨ w.heap.size ≤ k_) ∧ k_ ≠ b_I ∧ k_ ≠ b_E ∧ k_ ≠ b_l)) (by (with_reducible repeat (first|apply Kd.a_Z|apply Kd.a_0|apply Kd.a_6));exact Kd.c_O c_C.out (fun _ hk => ⟨⟨hk.1,⟨hk.2.2.1,⟨hk.2.2.2.1,hk.2.2.2.2⟩⟩⟩,(by first|exact hk.2.1|exact own_ne hk.2.1)⟩)) hg hat)
   replace b_j:=a_c.mk (d_G (g:=b_I) (o:=.cells #[.slice A0_0 l0_0.length c0_0,.int .i64 a0_1] 24 (0,0)) (bup_ b_j.out) hg (Kd.N_ne g_g.out b_j.out (by decide)))
   replace b_p:=a_c.mk (d_G (g:=b_E) (o:=.cells #[.int .i64 a1_0,.slice A1_1 l1_1.length c1_1] 27 (0,0)) (bup_ b_p.out) hg (Kd.l_Y g_g.out (fun _ hk => hk.2.2.1)))
   replace b_z:=a_c.mk (d_G (g:=b_l) (o:=.cells #[.slice none 0 0,.int .i64 0] 24 (0,0)) (bup_ b_z.out) hg (Kd.N_ne g_g.out b_z.out (by decide)))
   replace HB:=a_c.mk (hb)
   clear g_g ho hb hg hat
   obtain ⟨Ao56,co56,eo56⟩:=Kd.e_9 o_u.out
   (first|subst eo56|(injection eo56 with f1_ f2_ f3_;have f4_:=f1_.symm;have f5_:=f3_.symm;clear f1_ f2_ f3_;subst f4_;subst f5_))
   refine hK.out _ _ ⟨(a_a b_p.out 0).trans rfl,(a_a b_p.out 1).trans rfl⟩ (fun hHeld => ?_)
   clear hK K
   refine d_k (a':=?_) ?_ ?_
   rotate_left
   ·show Act.put _ (some 54) _ = _
    simp only [Act.put,sa_,sb_,sc_,a_r,a_s]
    rfl
   refine a_x (i:=6) (N:=some 57) (v:=?_) (a':=?_) #[T_,T_,T_,T_,T_,T_,T_,F_,F_] rfl rfl (a_q HT_.out (by kernel_rfl)) (fun _ _ _ h => h) (Or.inl ⟨by rfl,?_⟩) ?_ ?_
   rotate_left
   ·intro w'
    go_simp
    with_reducible rfl
   rotate_left
   ·simp only [Act.put,sa_,sb_,sc_,a_r,a_s]
    rfl
   refine one_ (i:=7) (N:=none) #[T_,T_,T_,T_,T_,T_,T_,T_,F_] rfl rfl (c_B HT_.out (by kernel_rfl)) (by decide) (fun K hK => ?_)
   have hs57 : w55.cell? ⟨b_l,0,none⟩ = some (.slice none 0 0):=(a_a b_z.out 0).trans rfl
   have hfs57:=a_e b_z.out 0
   have hns57_0:=c_G.out
   have hns57_1:=b_L.out
   have hms57_0:=c_H.out
   have hms57_1:=c_I.out
   have hs58 : w55.cell? ⟨b_l,1,none⟩ = some (.int .i64 0):=(a_a b_z.out 1).trans rfl
   have hfs58:=a_e b_z.out 1
   have hns58_0:=c_G.out
   have hns58_1:=b_L.out
   have hms58_0:=c_H.out
   have hms58_1:=c_I.out
   refine n_2 (w1:=?_) (by rfl) rfl ?_ ?_
   rotate_left
   ·go_simp
    rfl
   refine hK.out _ _ ⟨((cell_far (p:=⟨b_l,_,none⟩) b_L.out _).trans (((cell_far (p:=⟨b_l,_,none⟩) b_L.out _).trans (hHeld.1)))),((cell_far (p:=⟨b_l,_,none⟩) b_L.out _).trans (((cell_far (p:=⟨b_l,_,none⟩) b_L.out _).trans (hHeld.2))))⟩ (fun hHeld => ?_)
   clear hK K
   refine a_x (i:=8) (N:=some 5) (v:=?_) (a':=?_) #[T_,T_,T_,T_,T_,T_,T_,T_,T_] rfl rfl (a_q HT_.out (by kernel_rfl)) (fun _ _ _ h => h) (Or.inl ⟨by rfl,?_⟩) ?_ ?_
   rotate_left
   ·intro w'
    go_simp
    with_reducible rfl
   rotate_left
   ·simp only [Act.put,sa_,sb_,sc_,a_r,a_s]
    rfl
   refine d_3 (c_U HT_.out (by kernel_rfl)) ?_
   try go_wp2
   refine bodyPost_ret (c_d rfl _ _ b_l 24 #[.slice Ao56 y144.length co56,.int .i64 a1_0] (0,0) _ rfl (by (with_reducible repeat (first|refine a_j ?_ _|refine a_l ?_|refine a_i ?_ _));refine a_E (cs:=#[.slice Ao56 y144.length co56,.int .i64 0]) ?_ 1 _ rfl;(with_reducible repeat (first|refine a_j ?_ _|refine a_l ?_|refine a_i ?_ _));refine a_E (cs:=#[.slice none 0 0,.int .i64 0]) ?_ 0 _ rfl;(with_reducible repeat (first|refine a_j ?_ _|refine a_l ?_|refine a_i ?_ _));exact b_z.out) Try.underlying24 rfl (by kernel_rfl)) rfl ?_
   exact ⟨_,by first|rfl|(simp [a_v,a_u] <;> rfl)|(simp only [← hji44];first|rfl|(simp [a_v,a_u] <;> rfl))|(simp [*, a_v,a_u] <;> rfl),by (with_reducible repeat (first|apply Kd.c_3|apply Kd.c_4|apply Kd.d_c));exact Kd.d_1 (Kd.g_w (p:=⟨b_l,1,none⟩) (Kd.g_w (p:=⟨b_l,0,none⟩) (Kd.d_1 o_u.out (fun k_ hk => (⟨hk,hk.2.2.2⟩ : _ ∧ k_ ≠ b_l))) (fun _ hk => hk.2) (.slice Ao56 y144.length co56)) (fun _ hk => hk.2) (.int .i64 a1_0)) (fun _ hk => hk.1.1),by repeat (first|(with_reducible first|exact HB.out|apply a_g|apply a_b|apply a_h|refine a_f ?_ c_a.out|refine a_f ?_ c_J.out|refine a_f ?_ d_i.out)|exact HB.out)⟩
end Go.Proofs.Ytgglkfilkagblaa.Q
end
section
namespace Go.Proofs.Ytgglkfilkagblaa.Q
open Go.RowKit Go.Proofs.YtgglkfilkagblaaW.PrintWords Go.Proofs.YtgglkfilkagblaaW.PrintLast Go.Proofs.YtgglkfilkagblaaW.PrintMore
set_option linter.unusedVariables false
set_option linter.unusedSimpArgs false
def c_e.f (k : Nat) (l0_0 : List (S27)) (a0_1 : Int) (a1 : Int) : Option ((List (S27)) × Int × Int):=(a_t.f k l0_0 a0_1).bind fun t152 => (if t152 = 0 then (if a1 < a0_1 then (some (([] : List (S27)),0,2)) else (if a1 > 1125899906842624 then (some (([] : List (S27)),0,2)) else (some (l0_0,a1,0)))) else (some (([] : List (S27)),0,390)))
theorem c_e.mono : ∀ a0 a1 a2 k,LeO (c_e.f k a0 a1 a2) (c_e.f (k + 1) a0 a1 a2):=by
 intro a0 a1 a2 k
 unfold c_e.f
 repeat' first
  | (with_reducible exact a_t.mono _ _ _)
  | (with_reducible exact LeO.refl _)
  | (with_reducible exact LeO.none _)
  | (with_reducible refine LeO.ite ?_ ?_)
  | (with_reducible refine LeO.bind ?_ (fun _ => ?_))
  | exact a_t.mono _ _ _
  | exact LeO.none _
  | refine LeO.ite ?_ ?_
  | refine LeO.bind ?_ (fun _ => ?_)
set_option maxHeartbeats 8000000 in
set_option maxRecDepth 100000 in
theorem c_e.calls (k : Nat) (P0_0_ : Nat → Prop) (A0_0 : Option Addr) (c0_0 : Nat) (l0_0 : List (S27)) (a0_1 : Int) (a1 : Int) (r1 : List (S27)) (r2 : Int) (r3 : Int) (w : World) (hs0_0 : Kd.V k27 27 w w.heap.size (fun k_ => P0_0_ k_) (.slice A0_0 l0_0.length c0_0) l0_0) (h : c_e.f k l0_0 a0_1 a1 = some (r1,r2,r3)) :
 Calls Try.prog 11 #[.agg #[.slice A0_0 l0_0.length c0_0,.int .i64 a0_1],.int .i64 a1] w fun e w' => ∃ v0_ : Value,e = .returned (.tuple #[.agg #[v0_,.int .i64 r2],.int .i64 r3]) ∧ Kd.V k27 27 w' w.heap.size (fun k_ => (P0_0_ k_ ∨ w.heap.size ≤ k_)) v0_ r1 ∧ Below w.heap.size w w':=by
 have hu24:=Try.underlying24
 have b_o:=a_c.mk (show Kd.V k27 27 w w.heap.size (fun k_ => (P0_0_ k_ ∨ w.heap.size ≤ k_)) (.slice A0_0 l0_0.length c0_0) l0_0 from Kd.c_O hs0_0 (fun k_ hk => .inl hk))
 have HB:=a_c.mk (Below.refl w.heap.size w)
 have H : ((a_t.f k l0_0 a0_1).bind fun t152 => (if t152 = 0 then (if a1 < a0_1 then (some (([] : List (S27)),0,2)) else (if a1 > 1125899906842624 then (some (([] : List (S27)),0,2)) else (some (l0_0,a1,0)))) else (some (([] : List (S27)),0,390)))) = some (r1,r2,r3):=h
 clear h
 replace H:=Option.bind_eq_some_iff.mp H
 obtain ⟨t152,A30,H⟩:=H
 replace H : (if t152 = 0 then (if a1 < a0_1 then (some (([] : List (S27)),0,2)) else (if a1 > 1125899906842624 then (some (([] : List (S27)),0,2)) else (some (l0_0,a1,0)))) else (some (([] : List (S27)),0,390))) = some (r1,r2,r3):=H
 have A3:=a_c.mk A30
 clear A30
 by_cases c4 : t152 = 0
 rotate_left
 ·rw [if_neg c4] at H
  have c4b0 : (t152 == 0) = false:=beq_eq_false_iff_ne.mpr c4
  have c4b1 : (t152 != 0) = true:=bne_iff_ne.mpr c4
  simp only [Option.some.injEq,Prod.mk.injEq] at H
  obtain ⟨rfl,rfl,rfl⟩:=H
  go_enter Try.func11,Try.ntmps11
  go_wp2_with (first|((with_reducible refine a_M (N:=2) rfl ?_);refine a_G ?hg (N:=2) ?hd (cs:=#[.slice A0_0 l0_0.length c0_0,.int .i64 a0_1]) (t:=24) ?hr ?_;(case hd => rfl);(case hg => rfl);(case hr => first|(go_simp;done)|(go_simp;rfl));intro c_N hg w28 hbox hb;have b_7:=a_c.mk (hbox);have n_B:=a_c.mk ((by rw [hg];exact (a_n (lup_ HB.out)) : w.heap.size ≤ c_N));have d_D:=a_c.mk ((by rw [hg];exact (a_n (lup_ HB.out)) : w.heap.size ≤ c_N));replace b_o:=a_c.mk (Kd.b_c (Kd.b_w (by (with_reducible repeat (first|apply Kd.a_Z|apply Kd.a_0|apply Kd.a_6));exact b_o.out) c_N (Nat.le_of_eq hg.symm)) hb);replace HB:=a_c.mk (a_o (lup_ HB.out) hb);clear hb hbox hg)|((with_reducible refine a_M (N:=4) rfl ?_);refine a_G ?hg (N:=4) ?hd (cs:=#[.slice none 0 0,.int .i64 0]) (t:=24) ?hr ?_;(case hd => rfl);(case hg => rfl);(case hr => first|(go_simp;done)|(go_simp;rfl));intro c_P hg w29 hbox hb;have c_6:=a_c.mk (hbox);have n_C:=a_c.mk ((by rw [hg];exact (a_n (by repeat (first|(with_reducible first|exact HB.out|apply a_g|apply a_b|apply a_h|refine a_f ?_ d_D.out)|exact HB.out))) : w.heap.size ≤ c_P));have f_s:=a_c.mk ((by rw [hg];exact (a_n (by repeat (first|(with_reducible first|exact HB.out|apply a_g|apply a_b|apply a_h|refine a_f ?_ d_D.out)|exact HB.out))) : w.heap.size ≤ c_P));have d_E:=a_c.mk ((by rw [hg];exact Nat.ne_of_lt (a_J (bup_ b_7.out)) : c_N ≠ c_P));have d_r:=a_c.mk ((by rw [hg];exact Nat.ne_of_gt (a_J (bup_ b_7.out)) : c_P ≠ c_N));replace b_o:=a_c.mk (Kd.b_c (Kd.b_w (by (with_reducible repeat (first|apply Kd.a_Z|apply Kd.a_0|apply Kd.a_6));exact b_o.out) c_P (Nat.le_of_eq hg.symm)) hb);replace b_7:=a_c.mk (a_m (bup_ b_7.out) hb);replace HB:=a_c.mk (a_o (by repeat (first|(with_reducible first|exact HB.out|apply a_g|apply a_b|apply a_h|refine a_f ?_ d_D.out)|exact HB.out)) hb);clear hb hbox hg;have r_w:=d_E.out;have r_x:=d_r.out;have j_7 : w29.cell? ⟨c_N,0,none⟩ = some (.slice A0_0 l0_0.length c0_0):=(a_a b_7.out 0).trans rfl;have j_8 : w29.cell? ⟨c_N,1,none⟩ = some (.int .i64 a0_1):=(a_a b_7.out 1).trans rfl;have j_9:=a_e b_7.out 0;have k_a:=a_e b_7.out 1)|((with_reducible refine b_a (f:=14) rfl ?_);refine c_K (some 8) rfl rfl Try.func14 (by kernel_rfl) rfl #[.agg #[.slice A0_0 l0_0.length c0_0,.int .i64 a0_1]] rfl (by (try simp only [List.map_toArray,List.map_cons,List.map_nil]);first|done|rfl|(simp only [List.length_drop,List.length_take];rfl)) ?_;(with_reducible refine (a_t.calls k _ _ l0_0 a0_1 t152 _ ?side1 ?side2 A3.out).mono ?_);(case side1 => repeat (first|exact (Kd.b_C b_o.out).2.2|(with_reducible refine Kd.a_8 ?_ _)|(with_reducible refine Kd.a_7 ?_ _)|(with_reducible refine Kd.b_t ?_)));(case side2 => exact (Kd.b_C b_o.out).2.1);rintro e w32 ⟨rfl,hb⟩;refine ⟨_,rfl,?_⟩;replace b_o:=a_c.mk (Kd.b_c (by (with_reducible repeat (first|apply Kd.a_Z|apply Kd.a_0|apply Kd.a_6));exact b_o.out) hb);replace b_7:=a_c.mk (a_m (bup_ b_7.out) hb);replace c_6:=a_c.mk (a_m (bup_ c_6.out) hb);replace HB:=a_c.mk (a_o (by repeat (first|(with_reducible first|exact HB.out|apply a_g|apply a_b|apply a_h|refine a_f ?_ d_D.out|refine a_f ?_ f_s.out)|exact HB.out)) hb);(try clear hb);(try clear hb2);(try clear hk);(try clear hi);have h_I : w32.cell? ⟨c_P,0,none⟩ = some (.slice none 0 0):=(a_a c_6.out 0).trans rfl;have h_J : w32.cell? ⟨c_P,1,none⟩ = some (.int .i64 0):=(a_a c_6.out 1).trans rfl;have h_K:=a_e c_6.out 0;have h_L:=a_e c_6.out 1))
  refine bodyPost_ret (c_d rfl _ _ c_P 24 #[.slice none 0 0,.int .i64 0] (0,0) _ rfl (by (with_reducible repeat (first|refine a_j ?_ _|refine a_l ?_|refine a_i ?_ _));refine a_E (cs:=#[.slice none 0 0,.int .i64 0]) ?_ 1 _ rfl;(with_reducible repeat (first|refine a_j ?_ _|refine a_l ?_|refine a_i ?_ _));refine a_E (cs:=#[.slice none 0 0,.int .i64 0]) ?_ 0 _ rfl;(with_reducible repeat (first|refine a_j ?_ _|refine a_l ?_|refine a_i ?_ _));exact c_6.out) Try.underlying24 rfl (by kernel_rfl)) rfl ?_
  exact ⟨_,by first|rfl|(simp [a_v,a_u] <;> rfl)|(simp [*, a_v,a_u] <;> rfl),(Kd.f_R _ _ _ _ _),by repeat (first|(with_reducible first|exact HB.out|apply a_g|apply a_b|apply a_h|refine a_f ?_ d_D.out|refine a_f ?_ f_s.out)|exact HB.out)⟩
 rw [if_pos c4] at H
 have c4b0 : (t152 == 0) = true:=beq_iff_eq.mpr c4
 have c4b1 : (t152 != 0) = false:=bne_eq_false_iff_eq.mpr c4
 clear c4
 by_cases c5 : a1 < a0_1
 ·rw [if_pos c5] at H
  have c5b0 : decide (a1 < a0_1) = true:=decide_eq_true c5
  clear c5
  simp only [Option.some.injEq,Prod.mk.injEq] at H
  obtain ⟨rfl,rfl,rfl⟩:=H
  go_enter Try.func11,Try.ntmps11
  go_wp2_with (first|((with_reducible refine a_M (N:=2) rfl ?_);refine a_G ?hg (N:=2) ?hd (cs:=#[.slice A0_0 l0_0.length c0_0,.int .i64 a0_1]) (t:=24) ?hr ?_;(case hd => rfl);(case hg => rfl);(case hr => first|(go_simp;done)|(go_simp;rfl));intro c_N hg w6 hbox hb;have b_7:=a_c.mk (hbox);have n_B:=a_c.mk ((by rw [hg];exact (a_n (lup_ HB.out)) : w.heap.size ≤ c_N));have d_D:=a_c.mk ((by rw [hg];exact (a_n (lup_ HB.out)) : w.heap.size ≤ c_N));replace b_o:=a_c.mk (Kd.b_c (Kd.b_w (by (with_reducible repeat (first|apply Kd.a_Z|apply Kd.a_0|apply Kd.a_6));exact b_o.out) c_N (Nat.le_of_eq hg.symm)) hb);replace HB:=a_c.mk (a_o (lup_ HB.out) hb);clear hb hbox hg)|((with_reducible refine a_M (N:=4) rfl ?_);refine a_G ?hg (N:=4) ?hd (cs:=#[.slice none 0 0,.int .i64 0]) (t:=24) ?hr ?_;(case hd => rfl);(case hg => rfl);(case hr => first|(go_simp;done)|(go_simp;rfl));intro c_P hg w7 hbox hb;have c_6:=a_c.mk (hbox);have n_C:=a_c.mk ((by rw [hg];exact (a_n (by repeat (first|(with_reducible first|exact HB.out|apply a_g|apply a_b|apply a_h|refine a_f ?_ d_D.out)|exact HB.out))) : w.heap.size ≤ c_P));have f_s:=a_c.mk ((by rw [hg];exact (a_n (by repeat (first|(with_reducible first|exact HB.out|apply a_g|apply a_b|apply a_h|refine a_f ?_ d_D.out)|exact HB.out))) : w.heap.size ≤ c_P));have d_E:=a_c.mk ((by rw [hg];exact Nat.ne_of_lt (a_J (bup_ b_7.out)) : c_N ≠ c_P));have d_r:=a_c.mk ((by rw [hg];exact Nat.ne_of_gt (a_J (bup_ b_7.out)) : c_P ≠ c_N));replace b_o:=a_c.mk (Kd.b_c (Kd.b_w (by (with_reducible repeat (first|apply Kd.a_Z|apply Kd.a_0|apply Kd.a_6));exact b_o.out) c_P (Nat.le_of_eq hg.symm)) hb);replace b_7:=a_c.mk (a_m (bup_ b_7.out) hb);replace HB:=a_c.mk (a_o (by repeat (first|(with_reducible first|exact HB.out|apply a_g|apply a_b|apply a_h|refine a_f ?_ d_D.out)|exact HB.out)) hb);clear hb hbox hg;have hnb8:=d_E.out;have hnc8:=d_r.out;have o_k : w7.cell? ⟨c_N,0,none⟩ = some (.slice A0_0 l0_0.length c0_0):=(a_a b_7.out 0).trans rfl;have o_l : w7.cell? ⟨c_N,1,none⟩ = some (.int .i64 a0_1):=(a_a b_7.out 1).trans rfl;have o_m:=a_e b_7.out 0;have o_n:=a_e b_7.out 1)|((with_reducible refine b_a (f:=14) rfl ?_);refine c_K (some 8) rfl rfl Try.func14 (by kernel_rfl) rfl #[.agg #[.slice A0_0 l0_0.length c0_0,.int .i64 a0_1]] rfl (by (try simp only [List.map_toArray,List.map_cons,List.map_nil]);first|done|rfl|(simp only [List.length_drop,List.length_take];rfl)) ?_;(with_reducible refine (a_t.calls k _ _ l0_0 a0_1 t152 _ ?side1 ?side2 A3.out).mono ?_);(case side1 => repeat (first|exact (Kd.b_C b_o.out).2.2|(with_reducible refine Kd.a_8 ?_ _)|(with_reducible refine Kd.a_7 ?_ _)|(with_reducible refine Kd.b_t ?_)));(case side2 => exact (Kd.b_C b_o.out).2.1);rintro e w10 ⟨rfl,hb⟩;refine ⟨_,rfl,?_⟩;replace b_o:=a_c.mk (Kd.b_c (by (with_reducible repeat (first|apply Kd.a_Z|apply Kd.a_0|apply Kd.a_6));exact b_o.out) hb);replace b_7:=a_c.mk (a_m (bup_ b_7.out) hb);replace c_6:=a_c.mk (a_m (bup_ c_6.out) hb);replace HB:=a_c.mk (a_o (by repeat (first|(with_reducible first|exact HB.out|apply a_g|apply a_b|apply a_h|refine a_f ?_ d_D.out|refine a_f ?_ f_s.out)|exact HB.out)) hb);(try clear hb);(try clear hb2);(try clear hk);(try clear hi);have e_F : w10.cell? ⟨c_N,0,none⟩ = some (.slice A0_0 l0_0.length c0_0):=(a_a b_7.out 0).trans rfl;have e_G : w10.cell? ⟨c_N,1,none⟩ = some (.int .i64 a0_1):=(a_a b_7.out 1).trans rfl;have e_H:=a_e b_7.out 0;have e_I:=a_e b_7.out 1;have g_1 : w10.cell? ⟨c_P,0,none⟩ = some (.slice none 0 0):=(a_a c_6.out 0).trans rfl;have g_2 : w10.cell? ⟨c_P,1,none⟩ = some (.int .i64 0):=(a_a c_6.out 1).trans rfl;have g_3:=a_e c_6.out 0;have g_4:=a_e c_6.out 1))
  refine bodyPost_ret (c_d rfl _ _ c_P 24 #[.slice none 0 0,.int .i64 0] (0,0) _ rfl (by (with_reducible repeat (first|refine a_j ?_ _|refine a_l ?_|refine a_i ?_ _));refine a_E (cs:=#[.slice none 0 0,.int .i64 0]) ?_ 1 _ rfl;(with_reducible repeat (first|refine a_j ?_ _|refine a_l ?_|refine a_i ?_ _));refine a_E (cs:=#[.slice none 0 0,.int .i64 0]) ?_ 0 _ rfl;(with_reducible repeat (first|refine a_j ?_ _|refine a_l ?_|refine a_i ?_ _));exact c_6.out) Try.underlying24 rfl (by kernel_rfl)) rfl ?_
  exact ⟨_,by first|rfl|(simp [a_v,a_u] <;> rfl)|(simp [*, a_v,a_u] <;> rfl),(Kd.f_R _ _ _ _ _),by repeat (first|(with_reducible first|exact HB.out|apply a_g|apply a_b|apply a_h|refine a_f ?_ d_D.out|refine a_f ?_ f_s.out)|exact HB.out)⟩
 rw [if_neg c5] at H
 have c5b0 : decide (a1 < a0_1) = false:=decide_eq_false c5
 clear c5
 by_cases c13 : a1 > 1125899906842624
 ·rw [if_pos c13] at H
  have c13b0 : decide (1125899906842624 < a1) = true:=decide_eq_true c13
  clear c13
  simp only [Option.some.injEq,Prod.mk.injEq] at H
  obtain ⟨rfl,rfl,rfl⟩:=H
  go_enter Try.func11,Try.ntmps11
  go_wp2_with (first|((with_reducible refine a_M (N:=2) rfl ?_);refine a_G ?hg (N:=2) ?hd (cs:=#[.slice A0_0 l0_0.length c0_0,.int .i64 a0_1]) (t:=24) ?hr ?_;(case hd => rfl);(case hg => rfl);(case hr => first|(go_simp;done)|(go_simp;rfl));intro c_N hg w14 hbox hb;have b_7:=a_c.mk (hbox);have n_B:=a_c.mk ((by rw [hg];exact (a_n (lup_ HB.out)) : w.heap.size ≤ c_N));have d_D:=a_c.mk ((by rw [hg];exact (a_n (lup_ HB.out)) : w.heap.size ≤ c_N));replace b_o:=a_c.mk (Kd.b_c (Kd.b_w (by (with_reducible repeat (first|apply Kd.a_Z|apply Kd.a_0|apply Kd.a_6));exact b_o.out) c_N (Nat.le_of_eq hg.symm)) hb);replace HB:=a_c.mk (a_o (lup_ HB.out) hb);clear hb hbox hg)|((with_reducible refine a_M (N:=4) rfl ?_);refine a_G ?hg (N:=4) ?hd (cs:=#[.slice none 0 0,.int .i64 0]) (t:=24) ?hr ?_;(case hd => rfl);(case hg => rfl);(case hr => first|(go_simp;done)|(go_simp;rfl));intro c_P hg w15 hbox hb;have c_6:=a_c.mk (hbox);have n_C:=a_c.mk ((by rw [hg];exact (a_n (by repeat (first|(with_reducible first|exact HB.out|apply a_g|apply a_b|apply a_h|refine a_f ?_ d_D.out)|exact HB.out))) : w.heap.size ≤ c_P));have f_s:=a_c.mk ((by rw [hg];exact (a_n (by repeat (first|(with_reducible first|exact HB.out|apply a_g|apply a_b|apply a_h|refine a_f ?_ d_D.out)|exact HB.out))) : w.heap.size ≤ c_P));have d_E:=a_c.mk ((by rw [hg];exact Nat.ne_of_lt (a_J (bup_ b_7.out)) : c_N ≠ c_P));have d_r:=a_c.mk ((by rw [hg];exact Nat.ne_of_gt (a_J (bup_ b_7.out)) : c_P ≠ c_N));replace b_o:=a_c.mk (Kd.b_c (Kd.b_w (by (with_reducible repeat (first|apply Kd.a_Z|apply Kd.a_0|apply Kd.a_6));exact b_o.out) c_P (Nat.le_of_eq hg.symm)) hb);replace b_7:=a_c.mk (a_m (bup_ b_7.out) hb);replace HB:=a_c.mk (a_o (by repeat (first|(with_reducible first|exact HB.out|apply a_g|apply a_b|apply a_h|refine a_f ?_ d_D.out)|exact HB.out)) hb);clear hb hbox hg;have u_f:=d_E.out;have u_g:=d_r.out;have r_H : w15.cell? ⟨c_N,0,none⟩ = some (.slice A0_0 l0_0.length c0_0):=(a_a b_7.out 0).trans rfl;have r_I : w15.cell? ⟨c_N,1,none⟩ = some (.int .i64 a0_1):=(a_a b_7.out 1).trans rfl;have r_J:=a_e b_7.out 0;have r_K:=a_e b_7.out 1)|((with_reducible refine b_a (f:=14) rfl ?_);refine c_K (some 8) rfl rfl Try.func14 (by kernel_rfl) rfl #[.agg #[.slice A0_0 l0_0.length c0_0,.int .i64 a0_1]] rfl (by (try simp only [List.map_toArray,List.map_cons,List.map_nil]);first|done|rfl|(simp only [List.length_drop,List.length_take];rfl)) ?_;(with_reducible refine (a_t.calls k _ _ l0_0 a0_1 t152 _ ?side1 ?side2 A3.out).mono ?_);(case side1 => repeat (first|exact (Kd.b_C b_o.out).2.2|(with_reducible refine Kd.a_8 ?_ _)|(with_reducible refine Kd.a_7 ?_ _)|(with_reducible refine Kd.b_t ?_)));(case side2 => exact (Kd.b_C b_o.out).2.1);rintro e w18 ⟨rfl,hb⟩;refine ⟨_,rfl,?_⟩;replace b_o:=a_c.mk (Kd.b_c (by (with_reducible repeat (first|apply Kd.a_Z|apply Kd.a_0|apply Kd.a_6));exact b_o.out) hb);replace b_7:=a_c.mk (a_m (bup_ b_7.out) hb);replace c_6:=a_c.mk (a_m (bup_ c_6.out) hb);replace HB:=a_c.mk (a_o (by repeat (first|(with_reducible first|exact HB.out|apply a_g|apply a_b|apply a_h|refine a_f ?_ d_D.out|refine a_f ?_ f_s.out)|exact HB.out)) hb);(try clear hb);(try clear hb2);(try clear hk);(try clear hi);have h_m : w18.cell? ⟨c_N,0,none⟩ = some (.slice A0_0 l0_0.length c0_0):=(a_a b_7.out 0).trans rfl;have h_n : w18.cell? ⟨c_N,1,none⟩ = some (.int .i64 a0_1):=(a_a b_7.out 1).trans rfl;have h_o:=a_e b_7.out 0;have h_p:=a_e b_7.out 1;have h_g : w18.cell? ⟨c_P,0,none⟩ = some (.slice none 0 0):=(a_a c_6.out 0).trans rfl;have j_5 : w18.cell? ⟨c_P,1,none⟩ = some (.int .i64 0):=(a_a c_6.out 1).trans rfl;have h_h:=a_e c_6.out 0;have j_6:=a_e c_6.out 1))
  refine bodyPost_ret (c_d rfl _ _ c_P 24 #[.slice none 0 0,.int .i64 0] (0,0) _ rfl (by (with_reducible repeat (first|refine a_j ?_ _|refine a_l ?_|refine a_i ?_ _));refine a_E (cs:=#[.slice none 0 0,.int .i64 0]) ?_ 1 _ rfl;(with_reducible repeat (first|refine a_j ?_ _|refine a_l ?_|refine a_i ?_ _));refine a_E (cs:=#[.slice none 0 0,.int .i64 0]) ?_ 0 _ rfl;(with_reducible repeat (first|refine a_j ?_ _|refine a_l ?_|refine a_i ?_ _));exact c_6.out) Try.underlying24 rfl (by kernel_rfl)) rfl ?_
  exact ⟨_,by first|rfl|(simp [a_v,a_u] <;> rfl)|(simp [*, a_v,a_u] <;> rfl),(Kd.f_R _ _ _ _ _),by repeat (first|(with_reducible first|exact HB.out|apply a_g|apply a_b|apply a_h|refine a_f ?_ d_D.out|refine a_f ?_ f_s.out)|exact HB.out)⟩
 rw [if_neg c13] at H
 have c13b0 : decide (1125899906842624 < a1) = false:=decide_eq_false c13
 clear c13
 simp only [Option.some.injEq,Prod.mk.injEq] at H
 obtain ⟨rfl,rfl,rfl⟩:=H
 go_enter Try.func11,Try.ntmps11
 go_wp2_with (first|((with_reducible refine a_M (N:=2) rfl ?_);refine a_G ?hg (N:=2) ?hd (cs:=#[.slice A0_0 l0_0.length c0_0,.int .i64 a0_1]) (t:=24) ?hr ?_;(case hd => rfl);(case hg => rfl);(case hr => first|(go_simp;done)|(go_simp;rfl));intro c_N hg w21 hbox hb;have b_7:=a_c.mk (hbox);have n_B:=a_c.mk ((by rw [hg];exact (a_n (lup_ HB.out)) : w.heap.size ≤ c_N));have d_D:=a_c.mk ((by rw [hg];exact (a_n (lup_ HB.out)) : w.heap.size ≤ c_N));replace b_o:=a_c.mk (Kd.b_c (Kd.b_w (by (with_reducible repeat (first|apply Kd.a_Z|apply Kd.a_0|apply Kd.a_6));exact b_o.out) c_N (Nat.le_of_eq hg.symm)) hb);replace HB:=a_c.mk (a_o (lup_ HB.out) hb);clear hb hbox hg)|((with_reducible refine a_M (N:=4) rfl ?_);refine a_G ?hg (N:=4) ?hd (cs:=#[.slice none 0 0,.int .i64 0]) (t:=24) ?hr ?_;(case hd => rfl);(case hg => rfl);(case hr => first|(go_simp;done)|(go_simp;rfl));intro c_P hg w22 hbox hb;have c_6:=a_c.mk (hbox);have n_C:=a_c.mk ((by rw [hg];exact (a_n (by repeat (first|(with_reducible first|exact HB.out|apply a_g|apply a_b|apply a_h|refine a_f ?_ d_D.out)|exact HB.out))) : w.heap.size ≤ c_P));have f_s:=a_c.mk ((by rw [hg];exact (a_n (by repeat (first|(with_reducible first|exact HB.out|apply a_g|apply a_b|apply a_h|refine a_f ?_ d_D.out)|exact HB.out))) : w.heap.size ≤ c_P));have d_E:=a_c.mk ((by rw [hg];exact Nat.ne_of_lt (a_J (bup_ b_7.out)) : c_N ≠ c_P));have d_r:=a_c.mk ((by rw [hg];exact Nat.ne_of_gt (a_J (bup_ b_7.out)) : c_P ≠ c_N));replace b_o:=a_c.mk (Kd.b_c (Kd.b_w (by (with_reducible repeat (first|apply Kd.a_Z|apply Kd.a_0|apply Kd.a_6));exact b_o.out) c_P (Nat.le_of_eq hg.symm)) hb);replace b_7:=a_c.mk (a_m (bup_ b_7.out) hb);replace HB:=a_c.mk (a_o (by repeat (first|(with_reducible first|exact HB.out|apply a_g|apply a_b|apply a_h|refine a_f ?_ d_D.out)|exact HB.out)) hb);clear hb hbox hg;have u_h:=d_E.out;have u_i:=d_r.out;have r_L : w22.cell? ⟨c_N,0,none⟩ = some (.slice A0_0 l0_0.length c0_0):=(a_a b_7.out 0).trans rfl;have r_M : w22.cell? ⟨c_N,1,none⟩ = some (.int .i64 a0_1):=(a_a b_7.out 1).trans rfl;have r_N:=a_e b_7.out 0;have r_O:=a_e b_7.out 1)|((with_reducible refine b_a (f:=14) rfl ?_);refine c_K (some 8) rfl rfl Try.func14 (by kernel_rfl) rfl #[.agg #[.slice A0_0 l0_0.length c0_0,.int .i64 a0_1]] rfl (by (try simp only [List.map_toArray,List.map_cons,List.map_nil]);first|done|rfl|(simp only [List.length_drop,List.length_take];rfl)) ?_;(with_reducible refine (a_t.calls k _ _ l0_0 a0_1 t152 _ ?side1 ?side2 A3.out).mono ?_);(case side1 => repeat (first|exact (Kd.b_C b_o.out).2.2|(with_reducible refine Kd.a_8 ?_ _)|(with_reducible refine Kd.a_7 ?_ _)|(with_reducible refine Kd.b_t ?_)));(case side2 => exact (Kd.b_C b_o.out).2.1);rintro e w25 ⟨rfl,hb⟩;refine ⟨_,rfl,?_⟩;replace b_o:=a_c.mk (Kd.b_c (by (with_reducible repeat (first|apply Kd.a_Z|apply Kd.a_0|apply Kd.a_6));exact b_o.out) hb);replace b_7:=a_c.mk (a_m (bup_ b_7.out) hb);replace c_6:=a_c.mk (a_m (bup_ c_6.out) hb);replace HB:=a_c.mk (a_o (by repeat (first|(with_reducible first|exact HB.out|apply a_g|apply a_b|apply a_h|refine a_f ?_ d_D.out|refine a_f ?_ f_s.out)|exact HB.out)) hb);(try clear hb);(try clear hb2);(try clear hk);(try clear hi);have j_N : w25.cell? ⟨c_N,0,none⟩ = some (.slice A0_0 l0_0.length c0_0):=(a_a b_7.out 0).trans rfl;have j_O : w25.cell? ⟨c_N,1,none⟩ = some (.int .i64 a0_1):=(a_a b_7.out 1).trans rfl;have j_P:=a_e b_7.out 0;have j_Q:=a_e b_7.out 1;have e_J : w25.cell? ⟨c_P,0,none⟩ = some (.slice none 0 0):=(a_a c_6.out 0).trans rfl;have e_K : w25.cell? ⟨c_P,1,none⟩ = some (.int .i64 0):=(a_a c_6.out 1).trans rfl;have e_L:=a_e c_6.out 0;have e_M:=a_e c_6.out 1))
 refine bodyPost_ret (c_d rfl _ _ c_P 24 #[.slice A0_0 l0_0.length c0_0,.int .i64 a1] (0,0) _ rfl (by (with_reducible repeat (first|refine a_j ?_ _|refine a_l ?_|refine a_i ?_ _));refine a_E (cs:=#[.slice A0_0 l0_0.length c0_0,.int .i64 0]) ?_ 1 _ rfl;(with_reducible repeat (first|refine a_j ?_ _|refine a_l ?_|refine a_i ?_ _));refine a_E (cs:=#[.slice none 0 0,.int .i64 0]) ?_ 0 _ rfl;(with_reducible repeat (first|refine a_j ?_ _|refine a_l ?_|refine a_i ?_ _));refine a_I ?_ d_r.out _;(with_reducible repeat (first|refine a_j ?_ _|refine a_l ?_|refine a_i ?_ _));exact c_6.out) Try.underlying24 rfl (by kernel_rfl)) rfl ?_
 exact ⟨_,by first|rfl|(simp [a_v,a_u] <;> rfl)|(simp [*, a_v,a_u] <;> rfl),by (with_reducible repeat (first|apply Kd.a_Z|apply Kd.a_0|apply Kd.a_6));exact Kd.c_O (Kd.g_V (p:=⟨c_P,1,none⟩) (Kd.g_V (p:=⟨c_P,0,none⟩) (Kd.g_V (p:=⟨c_N,1,none⟩) (Kd.c_O (Kd.c_O b_o.out (fun k_ hk => (⟨hk,hk.1.2⟩ : _ ∧ k_ ≠ c_N))) (fun k_ hk => (⟨hk,hk.1.2⟩ : _ ∧ k_ ≠ c_P))) (fun _ hk => hk.1.2) (.int .i64 a1)) (fun _ hk => hk.2) (.slice A0_0 l0_0.length c0_0)) (fun _ hk => hk.2) (.int .i64 a1)) (fun _ hk => hk.1.1.1.1),by repeat (first|(with_reducible first|exact HB.out|apply a_g|apply a_b|apply a_h|refine a_f ?_ d_D.out|refine a_f ?_ f_s.out)|exact HB.out)⟩
end Go.Proofs.Ytgglkfilkagblaa.Q
end
section
namespace Go.Proofs.Ytgglkfilkagblaa.Q
open Go.RowKit Go.Proofs.YtgglkfilkagblaaW.PrintWords Go.Proofs.YtgglkfilkagblaaW.PrintLast Go.Proofs.YtgglkfilkagblaaW.PrintMore
set_option linter.unusedVariables false
set_option linter.unusedSimpArgs false
section
def b_d.f  : Option (Int × (List (S65))):=some (0,(([(⟨1,1,0,0,0,true,false,3,256,2,50⟩ : S65),(⟨2,1,0,0,(-1),true,false,3,256,2,50⟩ : S65)] : List (S65))))
theorem m_k {W : World} {base g : Nat} (x y : S65) {cs : List Value} (hc : cs = [.int .i64 x.f0,.int .i64 x.f1,.int .i64 x.f2,.int .i64 x.f3,.int .i64 x.f4,.bool x.f5,.bool x.f6,.int .u32 x.f7,.int .i64 x.f8,.int .i64 x.f9,.int .i64 x.f10] ++ [.int .i64 y.f0,.int .i64 y.f1,.int .i64 y.f2,.int .i64 y.f3,.int .i64 y.f4,.bool y.f5,.bool y.f6,.int .u32 y.f7,.int .i64 y.f8,.int .i64 y.f9,.int .i64 y.f10])
 (h : W.heap[g]? = some (.cells cs.toArray 65 (0,0))) (hb : base ≤ g) : Kd.R k65 65 W base (fun _ => True) (.slice (some ⟨g,0,none⟩) 2 2) [x,y]:=by
 subst hc
 refine ⟨fun _ _ => trivial,_,⟨rfl,.inr ⟨g,2,_,rfl,hb,h,Nat.le_refl _,by decide,rfl,rfl⟩⟩,?_⟩
 exact ((Reps.none (k65.M W base (fun _ => True)) 11).snoc (p:=x) (i_W _ _ _ x) rfl).snoc (p:=y) (i_W _ _ _ y) rfl
set_option maxHeartbeats 1000000 in
set_option maxRecDepth 100000 in
theorem b_d.calls (r1 : Int) (r2 : List (S65)) (w : World) (h : b_d.f  = some (r1,r2)) :
 Calls Try.prog 22 #[] w fun e w' => ∃ v1_ : Value,e = .returned (.agg #[.int .i64 r1,v1_]) ∧ Kd.R k65 65 w' w.heap.size (fun _ => True) v1_ r2 ∧ Below w.heap.size w w':=by
 cases h
 have hu27_:=Try.underlying27
 have hu65_:=Try.underlying65
 go_enter Try.func22,Try.ntmps22
 go_wp2
 refine bodyPost_ret (results_cell_row rfl _ _ w.heap.size 27 #[.int .i64 0,.slice (some ⟨w.heap.size + 1 + 1 + 1,0,none⟩) 2 2] (0,0) _ rfl (a_i (a_i (a_i (c_D w _) _) _) _) Try.underlying27 rfl (by kernel_rfl)) rfl ?_
 refine ⟨_,rfl,m_k _ _ rfl (by
  have:=c_D (((w.alloc (.cells #[.int .i64 0,.slice (some ⟨w.heap.size + 1 + 1 + 1,0,none⟩) 2 2] 27)).alloc (.cells #[.int .i64 1,.int .i64 1,.int .i64 0,.int .i64 0,.int .i64 0,.bool true,.bool false,.int .u32 3,.int .i64 256,.int .i64 2,.int .i64 50] 65)).alloc (.cells #[.int .i64 2,.int .i64 1,.int .i64 0,.int .i64 0,.int .i64 (-1),.bool true,.bool false,.int .u32 3,.int .i64 256,.int .i64 2,.int .i64 50] 65)) (.cells #[.int .i64 1,.int .i64 1,.int .i64 0,.int .i64 0,.int .i64 0,.bool true,.bool false,.int .u32 3,.int .i64 256,.int .i64 2,.int .i64 50,.int .i64 2,.int .i64 1,.int .i64 0,.int .i64 0,.int .i64 (-1),.bool true,.bool false,.int .u32 3,.int .i64 256,.int .i64 2,.int .i64 50] 65)
  simp only [World.size_alloc] at this
  exact this) (by omega),a_g (a_g (a_g (a_g (Below.refl _ _) _) _) _) _⟩
end
end Go.Proofs.Ytgglkfilkagblaa.Q
end
section
namespace Go.Proofs.Ytgglkfilkagblaa.Q
open Go.RowKit Go.Proofs.YtgglkfilkagblaaW.PrintWords Go.Proofs.YtgglkfilkagblaaW.PrintLast Go.Proofs.YtgglkfilkagblaaW.PrintMore
set_option linter.unusedVariables false
set_option linter.unusedSimpArgs false
def d_L.f (a0 : Int) : Option (Int):=if a0 < 0 then (some 0) else (if a0 ≥ 8 then (some 0) else (if 0 ≤ a0 then (some (shl .u32 1 a0)) else (none)))
set_option maxHeartbeats 8000000 in
set_option maxRecDepth 100000 in
theorem d_L.calls (a0 : Int) (r : Int) (w : World) (h : d_L.f a0 = some r) :
 Calls Try.prog 79 #[.int .i64 a0] w fun e w' => e = .returned (.int .u32 r) ∧ c_A w w':=by
 have H : (if a0 < 0 then (some 0) else (if a0 ≥ 8 then (some 0) else (if 0 ≤ a0 then (some (shl .u32 1 a0)) else (none)))) = some r:=h
 clear h
 by_cases c2 : a0 < 0
 ·rw [if_pos c2] at H
  have c2b0 : decide (a0 < 0) = true:=decide_eq_true c2
  clear c2
  obtain rfl:=Option.some.inj H
  go_enter Try.func79,Try.ntmps79
  go_wp2
  go_ret
  exact ⟨by first|rfl|(simp;done)|(simp [*];done),by repeat (first|exact c_A.refl _|apply c_A.step)⟩
 rw [if_neg c2] at H
 have c2b0 : decide (a0 < 0) = false:=decide_eq_false c2
 clear c2
 by_cases c3 : a0 ≥ 8
 ·rw [if_pos c3] at H
  have c3b0 : decide (8 ≤ a0) = true:=decide_eq_true c3
  clear c3
  obtain rfl:=Option.some.inj H
  go_enter Try.func79,Try.ntmps79
  go_wp2
  go_ret
  exact ⟨by first|rfl|(simp;done)|(simp [*];done),by repeat (first|exact c_A.refl _|apply c_A.step)⟩
 rw [if_neg c3] at H
 have c3b0 : decide (8 ≤ a0) = false:=decide_eq_false c3
 clear c3
 by_cases c4 : 0 ≤ a0
 rotate_left
 ·rw [if_neg c4] at H
  exact absurd H (by simp)
 rw [if_pos c4] at H
 have c4b0:=eq_true c4
 have c4b1 : decide (0 ≤ a0) = true:=decide_eq_true c4
 clear c4
 obtain ⟨ji5,hji5⟩ : ∃ j_ : Int,(shl .u32 1 a0) = j_:=⟨_,rfl⟩
 replace H : (some ji5) = some r:=by first|(rw [hji5] at H;exact H)|(simp only [hji5] at H ⊢; exact H)
 have hji5_ : (IntKind.u32.wrap (1 * 2 ^ min a0.toNat 32)) = ji5:=hji5
 have hji5z : a0 ≤ 32 → (IntKind.u32.wrap (1 * 2 ^ a0.toNat)) = ji5:=g_r hji5
 have hji5u : (IntKind.u32.wrap (2 ^ min a0.toNat 32)) = ji5:=by have h_:=hji5_;rw [Int.one_mul] at h_;exact h_
 have hji5v : a0 ≤ 32 → (IntKind.u32.wrap (2 ^ a0.toNat)) = ji5:=fun hle_ => by have h_:=hji5z hle_;rw [Int.one_mul] at h_;exact h_
 obtain rfl:=Option.some.inj H
 go_enter Try.func79,Try.ntmps79
 go_wp2
 go_ret
 exact ⟨by first|rfl|(simp;done)|(simp only [← hji5] <;> (first|rfl|simp))|(simp [*];done),by repeat (first|exact c_A.refl _|apply c_A.step)⟩
end Go.Proofs.Ytgglkfilkagblaa.Q
end
section
namespace Go.Proofs.Ytgglkfilkagblaa.Q
open Go.RowKit Go.Proofs.YtgglkfilkagblaaW.PrintWords Go.Proofs.YtgglkfilkagblaaW.PrintLast Go.Proofs.YtgglkfilkagblaaW.PrintMore
set_option linter.unusedVariables false
set_option linter.unusedSimpArgs false
def b_J.f (a0 : Int) (a1 : Int) : Option (Bool):=(d_L.f a1).bind fun t159 => (some ((Go.bits .and .u32 a0 t159) != 0))
set_option maxHeartbeats 8000000 in
set_option maxRecDepth 100000 in
theorem b_J.calls (a0 : Int) (a1 : Int) (r : Bool) (w : World) (h : b_J.f a0 a1 = some r) :
 Calls Try.prog 50 #[.int .u32 a0,.int .i64 a1] w fun e w' => e = .returned (.bool r) ∧ c_A w w':=by
 have H : ((d_L.f a1).bind fun t159 => (some ((Go.bits .and .u32 a0 t159) != 0))) = some r:=h
 clear h
 replace H:=Option.bind_eq_some_iff.mp H
 obtain ⟨t159,A30,H⟩:=H
 replace H : (some ((Go.bits .and .u32 a0 t159) != 0)) = some r:=H
 have A3:=a_c.mk A30
 clear A30
 obtain rfl:=Option.some.inj H
 go_enter Try.func50,Try.ntmps50
 go_wp2_with (first|((with_reducible refine b_a (f:=79) rfl ?_);refine c_K (some 7) rfl rfl Try.func79 (by kernel_rfl) rfl #[.int .i64 a1] rfl (by (try simp only [List.map_toArray,List.map_cons,List.map_nil]);first|done|rfl|(simp only [List.length_drop,List.length_take];rfl)) ?_;(with_reducible refine (d_L.calls a1 t159 _ A3.out).mono ?_);rintro e w' ⟨rfl,⟨nd,rfl⟩⟩;refine ⟨_,rfl,?_⟩))
 go_ret
 exact ⟨by first|rfl|(simp;done)|(simp [*];done),by repeat (first|exact c_A.refl _|apply c_A.step)⟩
end Go.Proofs.Ytgglkfilkagblaa.Q
end
