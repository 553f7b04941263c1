/- Part 6 of 11 of what the row of AuditOne stands on: contracts over the given program's functions, the plain law, the row; no condition beyond those that each theorem states. -/
import Derived.Test.YtgglkfilkagblaaDoorXAuditOne4
import Derived.RangeFuncNested
import Derived.TacticsInMore
import Derived.Shelf.RegionOpen
import Derived.RangeFuncBound
import Derived.RangeFuncCalls
import Derived.RangeFuncLeaves
import Derived.OwnWalkIn
import Derived.LoopNIn
import Derived.LoopIn
section
namespace Go.Proofs.YtgglkfilkagblaaDoor.Q
open Go.RowKit Go.Proofs.YtgglkfilkagblaaDoorW.PrintWords Go.Proofs.YtgglkfilkagblaaDoorW.PrintLast Go.Proofs.YtgglkfilkagblaaDoorW.PrintMore
set_option linter.unusedVariables false
set_option linter.unusedSimpArgs false
theorem own_ne {A : Option Addr} {n m c c' k : Nat} (h : some k ≠ (Value.slice A n c).ownBlock) : some k ≠ (Value.slice A m c').ownBlock:=by cases A <;> exact h
def a_O.j0 : Nat → List (S24) → Int → Bool → Int → List (S33) → Option ((List (S24)) × Int × Int)
 | 0,_,_,_,_,_ => none
 | k + 1,x6,x7,x42,x141000,x141001 => if x42 = true then (if 0 ≤ (wrap64 (x7 - 1)) then (if (wrap64 (x7 - 1)) ≤ (x6.length : Int) then ((some (x6.take ((wrap64 (x7 - 1)) : Int).toNat : List (S24))).bind fun y148 => (if (y148.length : Int) = 2000 then (some (([] : List (S24)),0,6)) else (if y148.length < 4398046511104 then (some ((y148 ++ [(⟨x141000,x141001⟩ : S24)]),x141000,0)) else (none)))) else (none)) else (none)) else (if (x6.length : Int) = 2000 then (some (([] : List (S24)),0,6)) else (if x6.length < 4398046511104 then (some ((x6 ++ [(⟨x141000,x141001⟩ : S24)]),x141000,0)) else (none)))
def a_O.f (k : Nat) (l0_0 : List (S24)) (a0_1 : Int) (a1_0 : Int) (l1_1 : List (S33)) : Option ((List (S24)) × Int × Int):=(a_x.f k l0_0 a0_1).bind fun t142 => (if t142 = 0 then ((a_t.f k a1_0 l1_1).bind fun t143 => (if t143 = true then (if a1_0 < a0_1 then (some (([] : List (S24)),0,2)) else ((d_a.f l0_0).bind fun t144 => (if (t144.length : Int) > 0 then (if 0 ≤ (wrap64 ((t144.length : Int) - 1)) then (if (wrap64 ((t144.length : Int) - 1)) < (t144.length : Int) then (a_O.j0 k t144 (t144.length : Int) (((a_r t144 (wrap64 ((t144.length : Int) - 1))).f0) == a1_0) a1_0 l1_1) else (none)) else (none)) else (a_O.j0 k t144 (t144.length : Int) false a1_0 l1_1)))) else (some (([] : List (S24)),0,2)))) else (some (([] : List (S24)),0,390)))
theorem a_O.c_9 : ∀ k,(∀ y0 y1 y2 y3 y4,LeO (a_O.j0 k y0 y1 y2 y3 y4) (a_O.j0 (k + 1) y0 y1 y2 y3 y4))
 | 0 => fun _ _ _ _ _ r h => by simp [a_O.j0] at h
 | k + 1 => by
  have ih0:=a_O.c_9 k
  ·intro y0 y1 y2 y3 y4
   unfold a_O.j0
   repeat' first
   | (with_reducible exact ih0 _ _ _ _ _)
   | (with_reducible exact a_x.mono _ _ _)
   | (with_reducible exact a_t.mono _ _ _)
   | (with_reducible exact LeO.refl _)
   | (with_reducible exact LeO.none _)
   | (with_reducible refine LeO.ite ?_ ?_)
   | (with_reducible refine LeO.bind ?_ (fun _ => ?_))
   | exact ih0 _ _ _ _ _
   | exact a_x.mono _ _ _
   | exact a_t.mono _ _ _
   | exact LeO.none _
   | refine LeO.ite ?_ ?_
   | refine LeO.bind ?_ (fun _ => ?_)
theorem a_O.mono : ∀ a0 a1 a2 a3 k,LeO (a_O.f k a0 a1 a2 a3) (a_O.f (k + 1) a0 a1 a2 a3):=by
 intro a0 a1 a2 a3 k
 have ih0:=a_O.c_9 k
 unfold a_O.f
 repeat' first
  | (with_reducible exact ih0 _ _ _ _ _)
  | (with_reducible exact a_x.mono _ _ _)
  | (with_reducible exact a_t.mono _ _ _)
  | (with_reducible exact LeO.refl _)
  | (with_reducible exact LeO.none _)
  | (with_reducible refine LeO.ite ?_ ?_)
  | (with_reducible refine LeO.bind ?_ (fun _ => ?_))
  | exact ih0 _ _ _ _ _
  | exact a_x.mono _ _ _
  | exact a_t.mono _ _ _
  | exact LeO.none _
  | refine LeO.ite ?_ ?_
  | refine LeO.bind ?_ (fun _ => ?_)
def a_O.T7 : Bool × List (List Nat × List Nat):=(true,[([],[]),([0],[0]),([1],[1]),([2],[2]),([2],[2]),([4,2],[2,4]),([3,5,2],[2,3,5]),([6,2],[2,6]),([7,2],[2,7]),([2],[2]),([9,2],[2,9]),([8,10,2],[2,8,10]),([2,11],[2,11])])
def a_O.B7 : List Nat:=[0,1,3,7,7,23,63,127,255,7,519,2047,4095]
theorem a_O.tab7 : rtab .any (opsOf Tryd.f14 7) = a_O.T7:=by kernel_rfl
theorem a_O.r_q : e_H a_O.T7.2 a_O.B7 = true:=by kernel_rfl
def a_O.T11 : Bool × List (List Nat × List Nat):=(true,[([],[]),([],[]),([1],[1]),([0,2],[0,2]),([],[]),([4],[4]),([3,5],[3,5]),([6,3,0,1,2,3,4,5,6],[6]),([7,0,1,2,3,4,5,6,7],[])])
def a_O.B11 : List Nat:=[0,0,2,7,0,16,63,127,255]
theorem a_O.m_N : rtab .any (opsOf Tryd.f14 11) = a_O.T11:=by kernel_rfl
theorem a_O.j_H : e_H a_O.T11.2 a_O.B11 = true:=by kernel_rfl
set_option maxHeartbeats 8000000 in
set_option maxRecDepth 100000 in
theorem a_O.calls (k : Nat) (P0_0_ : Nat → Prop) (A0_0 : Option Addr) (c0_0 : Nat) (l0_0 : List (S24)) (a0_1 : Int) (a1_0 : Int) (P1_1_ : Nat → Prop) (A1_1 : Option Addr) (c1_1 : Nat) (l1_1 : List (S33)) (r1 : List (S24)) (r2 : Int) (r3 : Int) (w : World) (hs0_0 : Kd.V k24 24 w w.heap.size (fun k_ => P0_0_ k_) (.slice A0_0 l0_0.length c0_0) l0_0) (hs1_1 : Kd.V k33 33 w w.heap.size (fun k_ => P1_1_ k_) (.slice A1_1 l1_1.length c1_1) l1_1) (h : a_O.f k l0_0 a0_1 a1_0 l1_1 = some (r1,r2,r3)) :
 Calls Tryd.prog 14 #[.agg #[.slice A0_0 l0_0.length c0_0,.int .i64 a0_1],.agg #[.int .i64 a1_0,.slice A1_1 l1_1.length c1_1]] w fun e w' => ∃ v0_ : Value,e = .returned (.tuple #[.agg #[v0_,.int .i64 r2],.int .i64 r3]) ∧ Kd.N k24 24 w' w.heap.size (fun k_ => ((P0_0_ k_ ∨ P1_1_ k_) ∨ w.heap.size ≤ k_)) v0_ r1 ∧ Below w.heap.size w w':=by
 have hu37:=Tryd.underlying37
 have hu24:=Tryd.underlying24
 have b_j:=a_f.mk (show Kd.V k24 24 w w.heap.size (fun k_ => ((P0_0_ k_ ∨ P1_1_ k_) ∨ w.heap.size ≤ k_)) (.slice A0_0 l0_0.length c0_0) l0_0 from Kd.c_X hs0_0 (fun k_ hk => .inl (.inl hk)))
 have b_8:=a_f.mk (show Kd.V k33 33 w w.heap.size (fun k_ => ((P0_0_ k_ ∨ P1_1_ k_) ∨ w.heap.size ≤ k_)) (.slice A1_1 l1_1.length c1_1) l1_1 from Kd.c_X hs1_1 (fun k_ hk => .inl (.inr hk)))
 have HB:=a_f.mk (Below.refl w.heap.size w)
 have H : ((a_x.f k l0_0 a0_1).bind fun t142 => (if t142 = 0 then ((a_t.f k a1_0 l1_1).bind fun t143 => (if t143 = true then (if a1_0 < a0_1 then (some (([] : List (S24)),0,2)) else ((d_a.f l0_0).bind fun t144 => (if (t144.length : Int) > 0 then (if 0 ≤ (wrap64 ((t144.length : Int) - 1)) then (if (wrap64 ((t144.length : Int) - 1)) < (t144.length : Int) then (a_O.j0 k t144 (t144.length : Int) (((a_r t144 (wrap64 ((t144.length : Int) - 1))).f0) == a1_0) a1_0 l1_1) else (none)) else (none)) else (a_O.j0 k t144 (t144.length : Int) false a1_0 l1_1)))) else (some (([] : List (S24)),0,2)))) else (some (([] : List (S24)),0,390)))) = some (r1,r2,r3):=h
 clear h
 replace H:=Option.bind_eq_some_iff.mp H
 obtain ⟨t142,A30,H⟩:=H
 replace H : (if t142 = 0 then ((a_t.f k a1_0 l1_1).bind fun t143 => (if t143 = true then (if a1_0 < a0_1 then (some (([] : List (S24)),0,2)) else ((d_a.f l0_0).bind fun t144 => (if (t144.length : Int) > 0 then (if 0 ≤ (wrap64 ((t144.length : Int) - 1)) then (if (wrap64 ((t144.length : Int) - 1)) < (t144.length : Int) then (a_O.j0 k t144 (t144.length : Int) (((a_r t144 (wrap64 ((t144.length : Int) - 1))).f0) == a1_0) a1_0 l1_1) else (none)) else (none)) else (a_O.j0 k t144 (t144.length : Int) false a1_0 l1_1)))) else (some (([] : List (S24)),0,2)))) else (some (([] : List (S24)),0,390))) = some (r1,r2,r3):=H
 have A3:=a_f.mk A30
 clear A30
 by_cases c4 : t142 = 0
 rotate_left
 ·rw [if_neg c4] at H
  have c4b0 : (t142 == 0) = false:=beq_eq_false_iff_ne.mpr c4
  have c4b1 : (t142 != 0) = true:=bne_iff_ne.mpr c4
  simp only [Option.some.injEq,Prod.mk.injEq] at H
  obtain ⟨rfl,rfl,rfl⟩:=H
  go_enter Tryd.func14,Tryd.ntmps14
  go_wp2_with (first|((with_reducible refine a_J (N:=2) rfl ?_);refine a_A ?hg (N:=2) ?hd (cs:=#[.slice A0_0 l0_0.length c0_0,.int .i64 a0_1]) (t:=37) ?hr ?_;(case hd => rfl);(case hg => rfl);(case hr => first|(go_simp;done)|(go_simp;rfl));intro b_C hg w80 hbox hb;have b_a:=a_f.mk (hbox);have n_m:=a_f.mk ((by rw [hg];exact (a_o (lup_ HB.out)) : w.heap.size ≤ b_C));have b_9:=a_f.mk ((by rw [hg];exact (a_o (lup_ HB.out)) : w.heap.size ≤ b_C));replace b_j:=a_f.mk (Kd.a_4 (Kd.b_r (by (with_reducible repeat (first|apply Kd.a_T|apply Kd.a_U|apply Kd.a_1));exact b_j.out) b_C (Nat.le_of_eq hg.symm)) hb);replace b_8:=a_f.mk (Kd.a_4 (Kd.b_r (by (with_reducible repeat (first|apply Kd.a_T|apply Kd.a_U|apply Kd.a_1));exact b_8.out) b_C (Nat.le_of_eq hg.symm)) hb);replace HB:=a_f.mk (a_q (lup_ HB.out) hb);clear hb hbox hg)|((with_reducible refine a_J (N:=3) rfl ?_);refine a_A ?hg (N:=3) ?hd (cs:=#[.int .i64 a1_0,.slice A1_1 l1_1.length c1_1]) (t:=24) ?hr ?_;(case hd => rfl);(case hg => rfl);(case hr => first|(go_simp;done)|(go_simp;rfl));intro b_x hg w81 hbox hb;have b_g:=a_f.mk (hbox);have n_n:=a_f.mk ((by rw [hg];exact (a_o (by repeat (first|(with_reducible first|exact HB.out|apply a_j|apply a_h|apply a_k|refine a_i ?_ b_9.out)|exact HB.out))) : w.heap.size ≤ b_x));have c_O:=a_f.mk ((by rw [hg];exact (a_o (by repeat (first|(with_reducible first|exact HB.out|apply a_j|apply a_h|apply a_k|refine a_i ?_ b_9.out)|exact HB.out))) : w.heap.size ≤ b_x));have d_8:=a_f.mk ((by rw [hg];exact Nat.ne_of_lt (a_B (bup_ b_a.out)) : b_C ≠ b_x));have d_9:=a_f.mk ((by rw [hg];exact Nat.ne_of_gt (a_B (bup_ b_a.out)) : b_x ≠ b_C));replace b_j:=a_f.mk (Kd.a_4 (Kd.b_r (by (with_reducible repeat (first|apply Kd.a_T|apply Kd.a_U|apply Kd.a_1));exact b_j.out) b_x (Nat.le_of_eq hg.symm)) hb);replace b_8:=a_f.mk (Kd.a_4 (Kd.b_r (by (with_reducible repeat (first|apply Kd.a_T|apply Kd.a_U|apply Kd.a_1));exact b_8.out) b_x (Nat.le_of_eq hg.symm)) hb);replace b_a:=a_f.mk (a_l (bup_ b_a.out) hb);replace HB:=a_f.mk (a_q (by repeat (first|(with_reducible first|exact HB.out|apply a_j|apply a_h|apply a_k|refine a_i ?_ b_9.out)|exact HB.out)) hb);clear hb hbox hg)|((with_reducible refine a_J (N:=4) rfl ?_);refine a_A ?hg (N:=4) ?hd (cs:=#[.slice none 0 0,.int .i64 0]) (t:=37) ?hr ?_;(case hd => rfl);(case hg => rfl);(case hr => first|(go_simp;done)|(go_simp;rfl));intro b_f hg w82 hbox hb;have b_s:=a_f.mk (hbox);have n_o:=a_f.mk ((by rw [hg];exact (a_o (by repeat (first|(with_reducible first|exact HB.out|apply a_j|apply a_h|apply a_k|refine a_i ?_ b_9.out|refine a_i ?_ c_O.out)|exact HB.out))) : w.heap.size ≤ b_f));have d_P:=a_f.mk ((by rw [hg];exact (a_o (by repeat (first|(with_reducible first|exact HB.out|apply a_j|apply a_h|apply a_k|refine a_i ?_ b_9.out|refine a_i ?_ c_O.out)|exact HB.out))) : w.heap.size ≤ b_f));have c_J:=a_f.mk ((by rw [hg];exact Nat.ne_of_lt (a_B (bup_ b_a.out)) : b_C ≠ b_f));have c_K:=a_f.mk ((by rw [hg];exact Nat.ne_of_gt (a_B (bup_ b_a.out)) : b_f ≠ b_C));have b_H:=a_f.mk ((by rw [hg];exact Nat.ne_of_lt (a_B (bup_ b_g.out)) : b_x ≠ b_f));have c_L:=a_f.mk ((by rw [hg];exact Nat.ne_of_gt (a_B (bup_ b_g.out)) : b_f ≠ b_x));replace b_j:=a_f.mk (Kd.a_4 (Kd.b_r (by (with_reducible repeat (first|apply Kd.a_T|apply Kd.a_U|apply Kd.a_1));exact b_j.out) b_f (Nat.le_of_eq hg.symm)) hb);replace b_8:=a_f.mk (Kd.a_4 (Kd.b_r (by (with_reducible repeat (first|apply Kd.a_T|apply Kd.a_U|apply Kd.a_1));exact b_8.out) b_f (Nat.le_of_eq hg.symm)) hb);replace b_a:=a_f.mk (a_l (bup_ b_a.out) hb);replace b_g:=a_f.mk (a_l (bup_ b_g.out) hb);replace HB:=a_f.mk (a_q (by repeat (first|(with_reducible first|exact HB.out|apply a_j|apply a_h|apply a_k|refine a_i ?_ b_9.out|refine a_i ?_ c_O.out)|exact HB.out)) hb);clear hb hbox hg;have z_y:=d_8.out;have z_4:=d_9.out;have z_z:=c_J.out;have z_5:=c_K.out;have v_j : w82.cell? ⟨b_C,0,none⟩ = some (.slice A0_0 l0_0.length c0_0):=(a_b b_a.out 0).trans rfl;have v_k : w82.cell? ⟨b_C,1,none⟩ = some (.int .i64 a0_1):=(a_b b_a.out 1).trans rfl;have x_O:=a_c b_a.out 0;have x_P:=a_c b_a.out 1)|((with_reducible refine a_M (f:=29) rfl ?_);refine b_D (some 10) rfl rfl Tryd.func29 (by kernel_rfl) rfl #[.agg #[.slice A0_0 l0_0.length c0_0,.int .i64 a0_1]] rfl (by (try simp only [List.map_toArray,List.map_cons,List.map_nil]);first|done|rfl|(simp only [List.length_drop,List.length_take];rfl)) ?_;(with_reducible refine (a_x.calls k _ _ l0_0 a0_1 t142 _ ?side1 ?side2 A3.out).mono ?_);(case side1 => repeat (first|exact (Kd.b_w b_j.out).2.2|(with_reducible refine Kd.b_b ?_ _)|(with_reducible refine Kd.b_c ?_ _)|(with_reducible refine Kd.b_z ?_)));(case side2 => exact (Kd.b_w b_j.out).2.1);rintro e w86 ⟨rfl,hb⟩;refine ⟨_,rfl,?_⟩;replace b_j:=a_f.mk (Kd.a_4 (by (with_reducible repeat (first|apply Kd.a_T|apply Kd.a_U|apply Kd.a_1));exact b_j.out) hb);replace b_8:=a_f.mk (Kd.a_4 (by (with_reducible repeat (first|apply Kd.a_T|apply Kd.a_U|apply Kd.a_1));exact b_8.out) hb);replace b_a:=a_f.mk (a_l (bup_ b_a.out) hb);replace b_g:=a_f.mk (a_l (bup_ b_g.out) hb);replace b_s:=a_f.mk (a_l (bup_ b_s.out) hb);replace HB:=a_f.mk (a_q (by repeat (first|(with_reducible first|exact HB.out|apply a_j|apply a_h|apply a_k|refine a_i ?_ b_9.out|refine a_i ?_ c_O.out|refine a_i ?_ d_P.out)|exact HB.out)) hb);(try clear hb);(try clear hb2);(try clear hk);(try clear hi);have z_A:=c_L.out;have z_6:=b_H.out;have v_n : w86.cell? ⟨b_f,0,none⟩ = some (.slice none 0 0):=(a_b b_s.out 0).trans rfl;have v_o : w86.cell? ⟨b_f,1,none⟩ = some (.int .i64 0):=(a_b b_s.out 1).trans rfl;have x_S:=a_c b_s.out 0;have x_T:=a_c b_s.out 1))
  refine bodyPost_ret (c_g rfl _ _ b_f 37 #[.slice none 0 0,.int .i64 0] (0,0) _ rfl (by (with_reducible repeat (first|refine a_e ?_ _|refine a_g ?_|refine a_d ?_ _));refine a_n (cs:=#[.slice none 0 0,.int .i64 0]) ?_ 1 _ rfl;(with_reducible repeat (first|refine a_e ?_ _|refine a_g ?_|refine a_d ?_ _));refine a_n (cs:=#[.slice none 0 0,.int .i64 0]) ?_ 0 _ rfl;(with_reducible repeat (first|refine a_e ?_ _|refine a_g ?_|refine a_d ?_ _));exact b_s.out) Tryd.underlying37 rfl (by kernel_rfl)) rfl ?_
  exact ⟨_,by first|rfl|(simp [a_u,a_v] <;> rfl)|(simp [*, a_u,a_v] <;> rfl),by first|exact Kd.j_6 _ _ _ _ _|exact Kd.h_Y _ _ _ _ _|exact Kd.g_F _ _ _ _ _|exact Kd.j_4 _ _ _ _ _|exact Kd.g_2 _ _ _ _ _,by repeat (first|(with_reducible first|exact HB.out|apply a_j|apply a_h|apply a_k|refine a_i ?_ b_9.out|refine a_i ?_ c_O.out|refine a_i ?_ d_P.out)|exact HB.out)⟩
 rw [if_pos c4] at H
 have c4b0 : (t142 == 0) = true:=beq_iff_eq.mpr c4
 have c4b1 : (t142 != 0) = false:=bne_eq_false_iff_eq.mpr c4
 clear c4
 replace H:=Option.bind_eq_some_iff.mp H
 obtain ⟨t143,A50,H⟩:=H
 replace H : (if t143 = true then (if a1_0 < a0_1 then (some (([] : List (S24)),0,2)) else ((d_a.f l0_0).bind fun t144 => (if (t144.length : Int) > 0 then (if 0 ≤ (wrap64 ((t144.length : Int) - 1)) then (if (wrap64 ((t144.length : Int) - 1)) < (t144.length : Int) then (a_O.j0 k t144 (t144.length : Int) (((a_r t144 (wrap64 ((t144.length : Int) - 1))).f0) == a1_0) a1_0 l1_1) else (none)) else (none)) else (a_O.j0 k t144 (t144.length : Int) false a1_0 l1_1)))) else (some (([] : List (S24)),0,2))) = some (r1,r2,r3):=H
 have A5:=a_f.mk A50
 clear A50
 by_cases c6 : t143 = true
 rotate_left
 ·replace c6:=Bool.eq_false_iff.mpr c6
  subst c6
  have H1 : (some (([] : List (S24)),0,2)) = some (r1,r2,r3):=by rw [if_neg (show ¬ (false = true) by decide)] at H;exact H
  clear H
  have H:=H1
  clear H1
  simp only [Option.some.injEq,Prod.mk.injEq] at H
  obtain ⟨rfl,rfl,rfl⟩:=H
  go_enter Tryd.func14,Tryd.ntmps14
  go_wp2_with (first|((with_reducible refine a_J (N:=2) rfl ?_);refine a_A ?hg (N:=2) ?hd (cs:=#[.slice A0_0 l0_0.length c0_0,.int .i64 a0_1]) (t:=37) ?hr ?_;(case hd => rfl);(case hg => rfl);(case hr => first|(go_simp;done)|(go_simp;rfl));intro b_C hg w69 hbox hb;have b_a:=a_f.mk (hbox);have n_m:=a_f.mk ((by rw [hg];exact (a_o (lup_ HB.out)) : w.heap.size ≤ b_C));have b_9:=a_f.mk ((by rw [hg];exact (a_o (lup_ HB.out)) : w.heap.size ≤ b_C));replace b_j:=a_f.mk (Kd.a_4 (Kd.b_r (by (with_reducible repeat (first|apply Kd.a_T|apply Kd.a_U|apply Kd.a_1));exact b_j.out) b_C (Nat.le_of_eq hg.symm)) hb);replace b_8:=a_f.mk (Kd.a_4 (Kd.b_r (by (with_reducible repeat (first|apply Kd.a_T|apply Kd.a_U|apply Kd.a_1));exact b_8.out) b_C (Nat.le_of_eq hg.symm)) hb);replace HB:=a_f.mk (a_q (lup_ HB.out) hb);clear hb hbox hg)|((with_reducible refine a_J (N:=3) rfl ?_);refine a_A ?hg (N:=3) ?hd (cs:=#[.int .i64 a1_0,.slice A1_1 l1_1.length c1_1]) (t:=24) ?hr ?_;(case hd => rfl);(case hg => rfl);(case hr => first|(go_simp;done)|(go_simp;rfl));intro b_x hg w70 hbox hb;have b_g:=a_f.mk (hbox);have n_n:=a_f.mk ((by rw [hg];exact (a_o (by repeat (first|(with_reducible first|exact HB.out|apply a_j|apply a_h|apply a_k|refine a_i ?_ b_9.out)|exact HB.out))) : w.heap.size ≤ b_x));have c_O:=a_f.mk ((by rw [hg];exact (a_o (by repeat (first|(with_reducible first|exact HB.out|apply a_j|apply a_h|apply a_k|refine a_i ?_ b_9.out)|exact HB.out))) : w.heap.size ≤ b_x));have d_8:=a_f.mk ((by rw [hg];exact Nat.ne_of_lt (a_B (bup_ b_a.out)) : b_C ≠ b_x));have d_9:=a_f.mk ((by rw [hg];exact Nat.ne_of_gt (a_B (bup_ b_a.out)) : b_x ≠ b_C));replace b_j:=a_f.mk (Kd.a_4 (Kd.b_r (by (with_reducible repeat (first|apply Kd.a_T|apply Kd.a_U|apply Kd.a_1));exact b_j.out) b_x (Nat.le_of_eq hg.symm)) hb);replace b_8:=a_f.mk (Kd.a_4 (Kd.b_r (by (with_reducible repeat (first|apply Kd.a_T|apply Kd.a_U|apply Kd.a_1));exact b_8.out) b_x (Nat.le_of_eq hg.symm)) hb);replace b_a:=a_f.mk (a_l (bup_ b_a.out) hb);replace HB:=a_f.mk (a_q (by repeat (first|(with_reducible first|exact HB.out|apply a_j|apply a_h|apply a_k|refine a_i ?_ b_9.out)|exact HB.out)) hb);clear hb hbox hg)|((with_reducible refine a_J (N:=4) rfl ?_);refine a_A ?hg (N:=4) ?hd (cs:=#[.slice none 0 0,.int .i64 0]) (t:=37) ?hr ?_;(case hd => rfl);(case hg => rfl);(case hr => first|(go_simp;done)|(go_simp;rfl));intro b_f hg w71 hbox hb;have b_s:=a_f.mk (hbox);have n_o:=a_f.mk ((by rw [hg];exact (a_o (by repeat (first|(with_reducible first|exact HB.out|apply a_j|apply a_h|apply a_k|refine a_i ?_ b_9.out|refine a_i ?_ c_O.out)|exact HB.out))) : w.heap.size ≤ b_f));have d_P:=a_f.mk ((by rw [hg];exact (a_o (by repeat (first|(with_reducible first|exact HB.out|apply a_j|apply a_h|apply a_k|refine a_i ?_ b_9.out|refine a_i ?_ c_O.out)|exact HB.out))) : w.heap.size ≤ b_f));have c_J:=a_f.mk ((by rw [hg];exact Nat.ne_of_lt (a_B (bup_ b_a.out)) : b_C ≠ b_f));have c_K:=a_f.mk ((by rw [hg];exact Nat.ne_of_gt (a_B (bup_ b_a.out)) : b_f ≠ b_C));have b_H:=a_f.mk ((by rw [hg];exact Nat.ne_of_lt (a_B (bup_ b_g.out)) : b_x ≠ b_f));have c_L:=a_f.mk ((by rw [hg];exact Nat.ne_of_gt (a_B (bup_ b_g.out)) : b_f ≠ b_x));replace b_j:=a_f.mk (Kd.a_4 (Kd.b_r (by (with_reducible repeat (first|apply Kd.a_T|apply Kd.a_U|apply Kd.a_1));exact b_j.out) b_f (Nat.le_of_eq hg.symm)) hb);replace b_8:=a_f.mk (Kd.a_4 (Kd.b_r (by (with_reducible repeat (first|apply Kd.a_T|apply Kd.a_U|apply Kd.a_1));exact b_8.out) b_f (Nat.le_of_eq hg.symm)) hb);replace b_a:=a_f.mk (a_l (bup_ b_a.out) hb);replace b_g:=a_f.mk (a_l (bup_ b_g.out) hb);replace HB:=a_f.mk (a_q (by repeat (first|(with_reducible first|exact HB.out|apply a_j|apply a_h|apply a_k|refine a_i ?_ b_9.out|refine a_i ?_ c_O.out)|exact HB.out)) hb);clear hb hbox hg;have z_v:=d_8.out;have z_1:=d_9.out;have z_w:=c_J.out;have z_2:=c_K.out;have u_5 : w71.cell? ⟨b_C,0,none⟩ = some (.slice A0_0 l0_0.length c0_0):=(a_b b_a.out 0).trans rfl;have u_6 : w71.cell? ⟨b_C,1,none⟩ = some (.int .i64 a0_1):=(a_b b_a.out 1).trans rfl;have x_A:=a_c b_a.out 0;have x_B:=a_c b_a.out 1)|((with_reducible refine a_M (f:=29) rfl ?_);refine b_D (some 10) rfl rfl Tryd.func29 (by kernel_rfl) rfl #[.agg #[.slice A0_0 l0_0.length c0_0,.int .i64 a0_1]] rfl (by (try simp only [List.map_toArray,List.map_cons,List.map_nil]);first|done|rfl|(simp only [List.length_drop,List.length_take];rfl)) ?_;(with_reducible refine (a_x.calls k _ _ l0_0 a0_1 t142 _ ?side1 ?side2 A3.out).mono ?_);(case side1 => repeat (first|exact (Kd.b_w b_j.out).2.2|(with_reducible refine Kd.b_b ?_ _)|(with_reducible refine Kd.b_c ?_ _)|(with_reducible refine Kd.b_z ?_)));(case side2 => exact (Kd.b_w b_j.out).2.1);rintro e w75 ⟨rfl,hb⟩;refine ⟨_,rfl,?_⟩;replace b_j:=a_f.mk (Kd.a_4 (by (with_reducible repeat (first|apply Kd.a_T|apply Kd.a_U|apply Kd.a_1));exact b_j.out) hb);replace b_8:=a_f.mk (Kd.a_4 (by (with_reducible repeat (first|apply Kd.a_T|apply Kd.a_U|apply Kd.a_1));exact b_8.out) hb);replace b_a:=a_f.mk (a_l (bup_ b_a.out) hb);replace b_g:=a_f.mk (a_l (bup_ b_g.out) hb);replace b_s:=a_f.mk (a_l (bup_ b_s.out) hb);replace HB:=a_f.mk (a_q (by repeat (first|(with_reducible first|exact HB.out|apply a_j|apply a_h|apply a_k|refine a_i ?_ b_9.out|refine a_i ?_ c_O.out|refine a_i ?_ d_P.out)|exact HB.out)) hb);(try clear hb);(try clear hb2);(try clear hk);(try clear hi);have z_x:=b_H.out;have z_3:=c_L.out;have u_9 : w75.cell? ⟨b_x,0,none⟩ = some (.int .i64 a1_0):=(a_b b_g.out 0).trans rfl;have v_a : w75.cell? ⟨b_x,1,none⟩ = some (.slice A1_1 l1_1.length c1_1):=(a_b b_g.out 1).trans rfl;have x_E:=a_c b_g.out 0;have x_F:=a_c b_g.out 1)|((with_reducible refine a_M (f:=19) rfl ?_);refine b_D (some 15) rfl rfl Tryd.func19 (by kernel_rfl) rfl #[.agg #[.int .i64 a1_0,.slice A1_1 l1_1.length c1_1]] rfl (by (try simp only [List.map_toArray,List.map_cons,List.map_nil]);first|done|rfl|(simp only [List.length_drop,List.length_take];rfl)) ?_;(with_reducible refine (a_t.calls k a1_0 _ _ l1_1 false _ ?side1 ?side2 A5.out).mono ?_);(case side1 => repeat (first|exact (Kd.b_w b_8.out).2.2|(with_reducible refine Kd.b_b ?_ _)|(with_reducible refine Kd.b_c ?_ _)|(with_reducible refine Kd.b_z ?_)));(case side2 => exact (Kd.b_w b_8.out).2.1);rintro e w78 ⟨rfl,hb⟩;refine ⟨_,rfl,?_⟩;replace b_j:=a_f.mk (Kd.a_4 (by (with_reducible repeat (first|apply Kd.a_T|apply Kd.a_U|apply Kd.a_1));exact b_j.out) hb);replace b_8:=a_f.mk (Kd.a_4 (by (with_reducible repeat (first|apply Kd.a_T|apply Kd.a_U|apply Kd.a_1));exact b_8.out) hb);replace b_a:=a_f.mk (a_l (bup_ b_a.out) hb);replace b_g:=a_f.mk (a_l (bup_ b_g.out) hb);replace b_s:=a_f.mk (a_l (bup_ b_s.out) hb);replace HB:=a_f.mk (a_q (by repeat (first|(with_reducible first|exact HB.out|apply a_j|apply a_h|apply a_k|refine a_i ?_ b_9.out|refine a_i ?_ c_O.out|refine a_i ?_ d_P.out)|exact HB.out)) hb);(try clear hb);(try clear hb2);(try clear hk);(try clear hi);have v_d : w78.cell? ⟨b_f,0,none⟩ = some (.slice none 0 0):=(a_b b_s.out 0).trans rfl;have v_e : w78.cell? ⟨b_f,1,none⟩ = some (.int .i64 0):=(a_b b_s.out 1).trans rfl;have x_I:=a_c b_s.out 0;have x_J:=a_c b_s.out 1))
  refine bodyPost_ret (c_g rfl _ _ b_f 37 #[.slice none 0 0,.int .i64 0] (0,0) _ rfl (by (with_reducible repeat (first|refine a_e ?_ _|refine a_g ?_|refine a_d ?_ _));refine a_n (cs:=#[.slice none 0 0,.int .i64 0]) ?_ 1 _ rfl;(with_reducible repeat (first|refine a_e ?_ _|refine a_g ?_|refine a_d ?_ _));refine a_n (cs:=#[.slice none 0 0,.int .i64 0]) ?_ 0 _ rfl;(with_reducible repeat (first|refine a_e ?_ _|refine a_g ?_|refine a_d ?_ _));exact b_s.out) Tryd.underlying37 rfl (by kernel_rfl)) rfl ?_
  exact ⟨_,by first|rfl|(simp [a_u,a_v] <;> rfl)|(simp [*, a_u,a_v] <;> rfl),by first|exact Kd.j_6 _ _ _ _ _|exact Kd.h_Y _ _ _ _ _|exact Kd.g_F _ _ _ _ _|exact Kd.j_4 _ _ _ _ _|exact Kd.g_2 _ _ _ _ _,by repeat (first|(with_reducible first|exact HB.out|apply a_j|apply a_h|apply a_k|refine a_i ?_ b_9.out|refine a_i ?_ c_O.out|refine a_i ?_ d_P.out)|exact HB.out)⟩
 subst c6
 have H1 : (if a1_0 < a0_1 then (some (([] : List (S24)),0,2)) else ((d_a.f l0_0).bind fun t144 => (if (t144.length : Int) > 0 then (if 0 ≤ (wrap64 ((t144.length : Int) - 1)) then (if (wrap64 ((t144.length : Int) - 1)) < (t144.length : Int) then (a_O.j0 k t144 (t144.length : Int) (((a_r t144 (wrap64 ((t144.length : Int) - 1))).f0) == a1_0) a1_0 l1_1) else (none)) else (none)) else (a_O.j0 k t144 (t144.length : Int) false a1_0 l1_1)))) = some (r1,r2,r3):=by rw [if_pos rfl] at H;exact H
 clear H
 have H:=H1
 clear H1
 by_cases c7 : a1_0 < a0_1
 ·rw [if_pos c7] at H
  have c7b0 : decide (a1_0 < a0_1) = true:=decide_eq_true c7
  clear c7
  simp only [Option.some.injEq,Prod.mk.injEq] at H
  obtain ⟨rfl,rfl,rfl⟩:=H
  go_enter Tryd.func14,Tryd.ntmps14
  go_wp2_with (first|((with_reducible refine a_J (N:=2) rfl ?_);refine a_A ?hg (N:=2) ?hd (cs:=#[.slice A0_0 l0_0.length c0_0,.int .i64 a0_1]) (t:=37) ?hr ?_;(case hd => rfl);(case hg => rfl);(case hr => first|(go_simp;done)|(go_simp;rfl));intro b_C hg w8 hbox hb;have b_a:=a_f.mk (hbox);have n_m:=a_f.mk ((by rw [hg];exact (a_o (lup_ HB.out)) : w.heap.size ≤ b_C));have b_9:=a_f.mk ((by rw [hg];exact (a_o (lup_ HB.out)) : w.heap.size ≤ b_C));replace b_j:=a_f.mk (Kd.a_4 (Kd.b_r (by (with_reducible repeat (first|apply Kd.a_T|apply Kd.a_U|apply Kd.a_1));exact b_j.out) b_C (Nat.le_of_eq hg.symm)) hb);replace b_8:=a_f.mk (Kd.a_4 (Kd.b_r (by (with_reducible repeat (first|apply Kd.a_T|apply Kd.a_U|apply Kd.a_1));exact b_8.out) b_C (Nat.le_of_eq hg.symm)) hb);replace HB:=a_f.mk (a_q (lup_ HB.out) hb);clear hb hbox hg)|((with_reducible refine a_J (N:=3) rfl ?_);refine a_A ?hg (N:=3) ?hd (cs:=#[.int .i64 a1_0,.slice A1_1 l1_1.length c1_1]) (t:=24) ?hr ?_;(case hd => rfl);(case hg => rfl);(case hr => first|(go_simp;done)|(go_simp;rfl));intro b_x hg w9 hbox hb;have b_g:=a_f.mk (hbox);have n_n:=a_f.mk ((by rw [hg];exact (a_o (by repeat (first|(with_reducible first|exact HB.out|apply a_j|apply a_h|apply a_k|refine a_i ?_ b_9.out)|exact HB.out))) : w.heap.size ≤ b_x));have c_O:=a_f.mk ((by rw [hg];exact (a_o (by repeat (first|(with_reducible first|exact HB.out|apply a_j|apply a_h|apply a_k|refine a_i ?_ b_9.out)|exact HB.out))) : w.heap.size ≤ b_x));have d_8:=a_f.mk ((by rw [hg];exact Nat.ne_of_lt (a_B (bup_ b_a.out)) : b_C ≠ b_x));have d_9:=a_f.mk ((by rw [hg];exact Nat.ne_of_gt (a_B (bup_ b_a.out)) : b_x ≠ b_C));replace b_j:=a_f.mk (Kd.a_4 (Kd.b_r (by (with_reducible repeat (first|apply Kd.a_T|apply Kd.a_U|apply Kd.a_1));exact b_j.out) b_x (Nat.le_of_eq hg.symm)) hb);replace b_8:=a_f.mk (Kd.a_4 (Kd.b_r (by (with_reducible repeat (first|apply Kd.a_T|apply Kd.a_U|apply Kd.a_1));exact b_8.out) b_x (Nat.le_of_eq hg.symm)) hb);replace b_a:=a_f.mk (a_l (bup_ b_a.out) hb);replace HB:=a_f.mk (a_q (by repeat (first|(with_reducible first|exact HB.out|apply a_j|apply a_h|apply a_k|refine a_i ?_ b_9.out)|exact HB.out)) hb);clear hb hbox hg)|((with_reducible refine a_J (N:=4) rfl ?_);refine a_A ?hg (N:=4) ?hd (cs:=#[.slice none 0 0,.int .i64 0]) (t:=37) ?hr ?_;(case hd => rfl);(case hg => rfl);(case hr => first|(go_simp;done)|(go_simp;rfl));intro b_f hg w10 hbox hb;have b_s:=a_f.mk (hbox);have n_o:=a_f.mk ((by rw [hg];exact (a_o (by repeat (first|(with_reducible first|exact HB.out|apply a_j|apply a_h|apply a_k|refine a_i ?_ b_9.out|refine a_i ?_ c_O.out)|exact HB.out))) : w.heap.size ≤ b_f));have d_P:=a_f.mk ((by rw [hg];exact (a_o (by repeat (first|(with_reducible first|exact HB.out|apply a_j|apply a_h|apply a_k|refine a_i ?_ b_9.out|refine a_i ?_ c_O.out)|exact HB.out))) : w.heap.size ≤ b_f));have c_J:=a_f.mk ((by rw [hg];exact Nat.ne_of_lt (a_B (bup_ b_a.out)) : b_C ≠ b_f));have c_K:=a_f.mk ((by rw [hg];exact Nat.ne_of_gt (a_B (bup_ b_a.out)) : b_f ≠ b_C));have b_H:=a_f.mk ((by rw [hg];exact Nat.ne_of_lt (a_B (bup_ b_g.out)) : b_x ≠ b_f));have c_L:=a_f.mk ((by rw [hg];exact Nat.ne_of_gt (a_B (bup_ b_g.out)) : b_f ≠ b_x));replace b_j:=a_f.mk (Kd.a_4 (Kd.b_r (by (with_reducible repeat (first|apply Kd.a_T|apply Kd.a_U|apply Kd.a_1));exact b_j.out) b_f (Nat.le_of_eq hg.symm)) hb);replace b_8:=a_f.mk (Kd.a_4 (Kd.b_r (by (with_reducible repeat (first|apply Kd.a_T|apply Kd.a_U|apply Kd.a_1));exact b_8.out) b_f (Nat.le_of_eq hg.symm)) hb);replace b_a:=a_f.mk (a_l (bup_ b_a.out) hb);replace b_g:=a_f.mk (a_l (bup_ b_g.out) hb);replace HB:=a_f.mk (a_q (by repeat (first|(with_reducible first|exact HB.out|apply a_j|apply a_h|apply a_k|refine a_i ?_ b_9.out|refine a_i ?_ c_O.out)|exact HB.out)) hb);clear hb hbox hg;have y_5:=d_8.out;have z_B:=d_9.out;have x_V:=c_J.out;have x_4:=c_K.out;have e_3 : w10.cell? ⟨b_C,0,none⟩ = some (.slice A0_0 l0_0.length c0_0):=(a_b b_a.out 0).trans rfl;have e_4 : w10.cell? ⟨b_C,1,none⟩ = some (.int .i64 a0_1):=(a_b b_a.out 1).trans rfl;have e_5:=a_c b_a.out 0;have e_6:=a_c b_a.out 1)|((with_reducible refine a_M (f:=29) rfl ?_);refine b_D (some 10) rfl rfl Tryd.func29 (by kernel_rfl) rfl #[.agg #[.slice A0_0 l0_0.length c0_0,.int .i64 a0_1]] rfl (by (try simp only [List.map_toArray,List.map_cons,List.map_nil]);first|done|rfl|(simp only [List.length_drop,List.length_take];rfl)) ?_;(with_reducible refine (a_x.calls k _ _ l0_0 a0_1 t142 _ ?side1 ?side2 A3.out).mono ?_);(case side1 => repeat (first|exact (Kd.b_w b_j.out).2.2|(with_reducible refine Kd.b_b ?_ _)|(with_reducible refine Kd.b_c ?_ _)|(with_reducible refine Kd.b_z ?_)));(case side2 => exact (Kd.b_w b_j.out).2.1);rintro e w14 ⟨rfl,hb⟩;refine ⟨_,rfl,?_⟩;replace b_j:=a_f.mk (Kd.a_4 (by (with_reducible repeat (first|apply Kd.a_T|apply Kd.a_U|apply Kd.a_1));exact b_j.out) hb);replace b_8:=a_f.mk (Kd.a_4 (by (with_reducible repeat (first|apply Kd.a_T|apply Kd.a_U|apply Kd.a_1));exact b_8.out) hb);replace b_a:=a_f.mk (a_l (bup_ b_a.out) hb);replace b_g:=a_f.mk (a_l (bup_ b_g.out) hb);replace b_s:=a_f.mk (a_l (bup_ b_s.out) hb);replace HB:=a_f.mk (a_q (by repeat (first|(with_reducible first|exact HB.out|apply a_j|apply a_h|apply a_k|refine a_i ?_ b_9.out|refine a_i ?_ c_O.out|refine a_i ?_ d_P.out)|exact HB.out)) hb);(try clear hb);(try clear hb2);(try clear hk);(try clear hi);have x_W:=b_H.out;have x_5:=c_L.out;have g_n : w14.cell? ⟨b_x,0,none⟩ = some (.int .i64 a1_0):=(a_b b_g.out 0).trans rfl;have g_o : w14.cell? ⟨b_x,1,none⟩ = some (.slice A1_1 l1_1.length c1_1):=(a_b b_g.out 1).trans rfl;have g_p:=a_c b_g.out 0;have g_q:=a_c b_g.out 1)|((with_reducible refine a_M (f:=19) rfl ?_);refine b_D (some 15) rfl rfl Tryd.func19 (by kernel_rfl) rfl #[.agg #[.int .i64 a1_0,.slice A1_1 l1_1.length c1_1]] rfl (by (try simp only [List.map_toArray,List.map_cons,List.map_nil]);first|done|rfl|(simp only [List.length_drop,List.length_take];rfl)) ?_;(with_reducible refine (a_t.calls k a1_0 _ _ l1_1 true _ ?side1 ?side2 A5.out).mono ?_);(case side1 => repeat (first|exact (Kd.b_w b_8.out).2.2|(with_reducible refine Kd.b_b ?_ _)|(with_reducible refine Kd.b_c ?_ _)|(with_reducible refine Kd.b_z ?_)));(case side2 => exact (Kd.b_w b_8.out).2.1);rintro e w17 ⟨rfl,hb⟩;refine ⟨_,rfl,?_⟩;replace b_j:=a_f.mk (Kd.a_4 (by (with_reducible repeat (first|apply Kd.a_T|apply Kd.a_U|apply Kd.a_1));exact b_j.out) hb);replace b_8:=a_f.mk (Kd.a_4 (by (with_reducible repeat (first|apply Kd.a_T|apply Kd.a_U|apply Kd.a_1));exact b_8.out) hb);replace b_a:=a_f.mk (a_l (bup_ b_a.out) hb);replace b_g:=a_f.mk (a_l (bup_ b_g.out) hb);replace b_s:=a_f.mk (a_l (bup_ b_s.out) hb);replace HB:=a_f.mk (a_q (by repeat (first|(with_reducible first|exact HB.out|apply a_j|apply a_h|apply a_k|refine a_i ?_ b_9.out|refine a_i ?_ c_O.out|refine a_i ?_ d_P.out)|exact HB.out)) hb);(try clear hb);(try clear hb2);(try clear hk);(try clear hi);have i_m : w17.cell? ⟨b_x,0,none⟩ = some (.int .i64 a1_0):=(a_b b_g.out 0).trans rfl;have i_n : w17.cell? ⟨b_x,1,none⟩ = some (.slice A1_1 l1_1.length c1_1):=(a_b b_g.out 1).trans rfl;have i_L:=a_c b_g.out 0;have i_M:=a_c b_g.out 1;have f_O : w17.cell? ⟨b_C,0,none⟩ = some (.slice A0_0 l0_0.length c0_0):=(a_b b_a.out 0).trans rfl;have f_P : w17.cell? ⟨b_C,1,none⟩ = some (.int .i64 a0_1):=(a_b b_a.out 1).trans rfl;have f_Q:=a_c b_a.out 0;have f_R:=a_c b_a.out 1;have g_8 : w17.cell? ⟨b_f,0,none⟩ = some (.slice none 0 0):=(a_b b_s.out 0).trans rfl;have i_o : w17.cell? ⟨b_f,1,none⟩ = some (.int .i64 0):=(a_b b_s.out 1).trans rfl;have h_h:=a_c b_s.out 0;have i_N:=a_c b_s.out 1))
  refine bodyPost_ret (c_g rfl _ _ b_f 37 #[.slice none 0 0,.int .i64 0] (0,0) _ rfl (by (with_reducible repeat (first|refine a_e ?_ _|refine a_g ?_|refine a_d ?_ _));refine a_n (cs:=#[.slice none 0 0,.int .i64 0]) ?_ 1 _ rfl;(with_reducible repeat (first|refine a_e ?_ _|refine a_g ?_|refine a_d ?_ _));refine a_n (cs:=#[.slice none 0 0,.int .i64 0]) ?_ 0 _ rfl;(with_reducible repeat (first|refine a_e ?_ _|refine a_g ?_|refine a_d ?_ _));exact b_s.out) Tryd.underlying37 rfl (by kernel_rfl)) rfl ?_
  exact ⟨_,by first|rfl|(simp [a_u,a_v] <;> rfl)|(simp [*, a_u,a_v] <;> rfl),by first|exact Kd.j_6 _ _ _ _ _|exact Kd.h_Y _ _ _ _ _|exact Kd.g_F _ _ _ _ _|exact Kd.j_4 _ _ _ _ _|exact Kd.g_2 _ _ _ _ _,by repeat (first|(with_reducible first|exact HB.out|apply a_j|apply a_h|apply a_k|refine a_i ?_ b_9.out|refine a_i ?_ c_O.out|refine a_i ?_ d_P.out)|exact HB.out)⟩
 rw [if_neg c7] at H
 have c7b0 : decide (a1_0 < a0_1) = false:=decide_eq_false c7
 clear c7
 replace H:=Option.bind_eq_some_iff.mp H
 obtain ⟨t144,A210,H⟩:=H
 replace H : (if (t144.length : Int) > 0 then (if 0 ≤ (wrap64 ((t144.length : Int) - 1)) then (if (wrap64 ((t144.length : Int) - 1)) < (t144.length : Int) then (a_O.j0 k t144 (t144.length : Int) (((a_r t144 (wrap64 ((t144.length : Int) - 1))).f0) == a1_0) a1_0 l1_1) else (none)) else (none)) else (a_O.j0 k t144 (t144.length : Int) false a1_0 l1_1)) = some (r1,r2,r3):=H
 have A21:=a_f.mk A210
 clear A210
 have HC22:=a_f.mk H
 clear H
 go_enter Tryd.func14,Tryd.ntmps14
 go_upto_region 7 with (first|((with_reducible refine a_J (N:=2) rfl ?_);refine a_A ?hg (N:=2) ?hd (cs:=#[.slice A0_0 l0_0.length c0_0,.int .i64 a0_1]) (t:=37) ?hr ?_;(case hd => rfl);(case hg => rfl);(case hr => first|(go_simp;done)|(go_simp;rfl));intro b_C hg w23 hbox hb;have b_a:=a_f.mk (hbox);have n_m:=a_f.mk ((by rw [hg];exact (a_o (lup_ HB.out)) : w.heap.size ≤ b_C));have b_9:=a_f.mk ((by rw [hg];exact (a_o (lup_ HB.out)) : w.heap.size ≤ b_C));replace b_j:=a_f.mk (Kd.a_4 (Kd.b_r (by (with_reducible repeat (first|apply Kd.a_T|apply Kd.a_U|apply Kd.a_1));exact b_j.out) b_C (Nat.le_of_eq hg.symm)) hb);replace b_8:=a_f.mk (Kd.a_4 (Kd.b_r (by (with_reducible repeat (first|apply Kd.a_T|apply Kd.a_U|apply Kd.a_1));exact b_8.out) b_C (Nat.le_of_eq hg.symm)) hb);replace HB:=a_f.mk (a_q (lup_ HB.out) hb);clear hb hbox hg)|((with_reducible refine a_J (N:=3) rfl ?_);refine a_A ?hg (N:=3) ?hd (cs:=#[.int .i64 a1_0,.slice A1_1 l1_1.length c1_1]) (t:=24) ?hr ?_;(case hd => rfl);(case hg => rfl);(case hr => first|(go_simp;done)|(go_simp;rfl));intro b_x hg w24 hbox hb;have b_g:=a_f.mk (hbox);have n_n:=a_f.mk ((by rw [hg];exact (a_o (by repeat (first|(with_reducible first|exact HB.out|apply a_j|apply a_h|apply a_k|refine a_i ?_ b_9.out)|exact HB.out))) : w.heap.size ≤ b_x));have c_O:=a_f.mk ((by rw [hg];exact (a_o (by repeat (first|(with_reducible first|exact HB.out|apply a_j|apply a_h|apply a_k|refine a_i ?_ b_9.out)|exact HB.out))) : w.heap.size ≤ b_x));have d_8:=a_f.mk ((by rw [hg];exact Nat.ne_of_lt (a_B (bup_ b_a.out)) : b_C ≠ b_x));have d_9:=a_f.mk ((by rw [hg];exact Nat.ne_of_gt (a_B (bup_ b_a.out)) : b_x ≠ b_C));replace b_j:=a_f.mk (Kd.a_4 (Kd.b_r (by (with_reducible repeat (first|apply Kd.a_T|apply Kd.a_U|apply Kd.a_1));exact b_j.out) b_x (Nat.le_of_eq hg.symm)) hb);replace b_8:=a_f.mk (Kd.a_4 (Kd.b_r (by (with_reducible repeat (first|apply Kd.a_T|apply Kd.a_U|apply Kd.a_1));exact b_8.out) b_x (Nat.le_of_eq hg.symm)) hb);replace b_a:=a_f.mk (a_l (bup_ b_a.out) hb);replace HB:=a_f.mk (a_q (by repeat (first|(with_reducible first|exact HB.out|apply a_j|apply a_h|apply a_k|refine a_i ?_ b_9.out)|exact HB.out)) hb);clear hb hbox hg)|((with_reducible refine a_J (N:=4) rfl ?_);refine a_A ?hg (N:=4) ?hd (cs:=#[.slice none 0 0,.int .i64 0]) (t:=37) ?hr ?_;(case hd => rfl);(case hg => rfl);(case hr => first|(go_simp;done)|(go_simp;rfl));intro b_f hg w25 hbox hb;have b_s:=a_f.mk (hbox);have n_o:=a_f.mk ((by rw [hg];exact (a_o (by repeat (first|(with_reducible first|exact HB.out|apply a_j|apply a_h|apply a_k|refine a_i ?_ b_9.out|refine a_i ?_ c_O.out)|exact HB.out))) : w.heap.size ≤ b_f));have d_P:=a_f.mk ((by rw [hg];exact (a_o (by repeat (first|(with_reducible first|exact HB.out|apply a_j|apply a_h|apply a_k|refine a_i ?_ b_9.out|refine a_i ?_ c_O.out)|exact HB.out))) : w.heap.size ≤ b_f));have c_J:=a_f.mk ((by rw [hg];exact Nat.ne_of_lt (a_B (bup_ b_a.out)) : b_C ≠ b_f));have c_K:=a_f.mk ((by rw [hg];exact Nat.ne_of_gt (a_B (bup_ b_a.out)) : b_f ≠ b_C));have b_H:=a_f.mk ((by rw [hg];exact Nat.ne_of_lt (a_B (bup_ b_g.out)) : b_x ≠ b_f));have c_L:=a_f.mk ((by rw [hg];exact Nat.ne_of_gt (a_B (bup_ b_g.out)) : b_f ≠ b_x));replace b_j:=a_f.mk (Kd.a_4 (Kd.b_r (by (with_reducible repeat (first|apply Kd.a_T|apply Kd.a_U|apply Kd.a_1));exact b_j.out) b_f (Nat.le_of_eq hg.symm)) hb);replace b_8:=a_f.mk (Kd.a_4 (Kd.b_r (by (with_reducible repeat (first|apply Kd.a_T|apply Kd.a_U|apply Kd.a_1));exact b_8.out) b_f (Nat.le_of_eq hg.symm)) hb);replace b_a:=a_f.mk (a_l (bup_ b_a.out) hb);replace b_g:=a_f.mk (a_l (bup_ b_g.out) hb);replace HB:=a_f.mk (a_q (by repeat (first|(with_reducible first|exact HB.out|apply a_j|apply a_h|apply a_k|refine a_i ?_ b_9.out|refine a_i ?_ c_O.out)|exact HB.out)) hb);clear hb hbox hg;have z_c:=d_8.out;have z_I:=d_9.out;have x_0:=c_J.out;have x_9:=c_K.out;have h_a : w25.cell? ⟨b_C,0,none⟩ = some (.slice A0_0 l0_0.length c0_0):=(a_b b_a.out 0).trans rfl;have h_b : w25.cell? ⟨b_C,1,none⟩ = some (.int .i64 a0_1):=(a_b b_a.out 1).trans rfl;have h_j:=a_c b_a.out 0;have h_k:=a_c b_a.out 1)|((with_reducible refine a_M (f:=29) rfl ?_);refine b_D (some 10) rfl rfl Tryd.func29 (by kernel_rfl) rfl #[.agg #[.slice A0_0 l0_0.length c0_0,.int .i64 a0_1]] rfl (by (try simp only [List.map_toArray,List.map_cons,List.map_nil]);first|done|rfl|(simp only [List.length_drop,List.length_take];rfl)) ?_;(with_reducible refine (a_x.calls k _ _ l0_0 a0_1 t142 _ ?side1 ?side2 A3.out).mono ?_);(case side1 => repeat (first|exact (Kd.b_w b_j.out).2.2|(with_reducible refine Kd.b_b ?_ _)|(with_reducible refine Kd.b_c ?_ _)|(with_reducible refine Kd.b_z ?_)));(case side2 => exact (Kd.b_w b_j.out).2.1);rintro e w29 ⟨rfl,hb⟩;refine ⟨_,rfl,?_⟩;replace b_j:=a_f.mk (Kd.a_4 (by (with_reducible repeat (first|apply Kd.a_T|apply Kd.a_U|apply Kd.a_1));exact b_j.out) hb);replace b_8:=a_f.mk (Kd.a_4 (by (with_reducible repeat (first|apply Kd.a_T|apply Kd.a_U|apply Kd.a_1));exact b_8.out) hb);replace b_a:=a_f.mk (a_l (bup_ b_a.out) hb);replace b_g:=a_f.mk (a_l (bup_ b_g.out) hb);replace b_s:=a_f.mk (a_l (bup_ b_s.out) hb);replace HB:=a_f.mk (a_q (by repeat (first|(with_reducible first|exact HB.out|apply a_j|apply a_h|apply a_k|refine a_i ?_ b_9.out|refine a_i ?_ c_O.out|refine a_i ?_ d_P.out)|exact HB.out)) hb);(try clear hb);(try clear hb2);(try clear hk);(try clear hi);have q_S:=b_H.out;have q_T:=c_L.out;have h_d : w29.cell? ⟨b_x,0,none⟩ = some (.int .i64 a1_0):=(a_b b_g.out 0).trans rfl;have h_e : w29.cell? ⟨b_x,1,none⟩ = some (.slice A1_1 l1_1.length c1_1):=(a_b b_g.out 1).trans rfl;have h_l:=a_c b_g.out 0;have h_m:=a_c b_g.out 1)|((with_reducible refine a_M (f:=19) rfl ?_);refine b_D (some 15) rfl rfl Tryd.func19 (by kernel_rfl) rfl #[.agg #[.int .i64 a1_0,.slice A1_1 l1_1.length c1_1]] rfl (by (try simp only [List.map_toArray,List.map_cons,List.map_nil]);first|done|rfl|(simp only [List.length_drop,List.length_take];rfl)) ?_;(with_reducible refine (a_t.calls k a1_0 _ _ l1_1 true _ ?side1 ?side2 A5.out).mono ?_);(case side1 => repeat (first|exact (Kd.b_w b_8.out).2.2|(with_reducible refine Kd.b_b ?_ _)|(with_reducible refine Kd.b_c ?_ _)|(with_reducible refine Kd.b_z ?_)));(case side2 => exact (Kd.b_w b_8.out).2.1);rintro e w32 ⟨rfl,hb⟩;refine ⟨_,rfl,?_⟩;replace b_j:=a_f.mk (Kd.a_4 (by (with_reducible repeat (first|apply Kd.a_T|apply Kd.a_U|apply Kd.a_1));exact b_j.out) hb);replace b_8:=a_f.mk (Kd.a_4 (by (with_reducible repeat (first|apply Kd.a_T|apply Kd.a_U|apply Kd.a_1));exact b_8.out) hb);replace b_a:=a_f.mk (a_l (bup_ b_a.out) hb);replace b_g:=a_f.mk (a_l (bup_ b_g.out) hb);replace b_s:=a_f.mk (a_l (bup_ b_s.out) hb);replace HB:=a_f.mk (a_q (by repeat (first|(with_reducible first|exact HB.out|apply a_j|apply a_h|apply a_k|refine a_i ?_ b_9.out|refine a_i ?_ c_O.out|refine a_i ?_ d_P.out)|exact HB.out)) hb);(try clear hb);(try clear hb2);(try clear hk);(try clear hi);have h_f : w32.cell? ⟨b_x,0,none⟩ = some (.int .i64 a1_0):=(a_b b_g.out 0).trans rfl;have h_g : w32.cell? ⟨b_x,1,none⟩ = some (.slice A1_1 l1_1.length c1_1):=(a_b b_g.out 1).trans rfl;have h_n:=a_c b_g.out 0;have h_o:=a_c b_g.out 1;have i_D : w32.cell? ⟨b_C,0,none⟩ = some (.slice A0_0 l0_0.length c0_0):=(a_b b_a.out 0).trans rfl;have i_E : w32.cell? ⟨b_C,1,none⟩ = some (.int .i64 a0_1):=(a_b b_a.out 1).trans rfl;have i_2:=a_c b_a.out 0;have i_3:=a_c b_a.out 1)|((with_reducible refine a_M (f:=30) rfl ?_);refine b_D (some 27) rfl rfl Tryd.func30 (by kernel_rfl) rfl #[.slice A0_0 l0_0.length c0_0] rfl (by (try simp only [List.map_toArray,List.map_cons,List.map_nil]);first|done|rfl|(simp only [List.length_drop,List.length_take];rfl)) ?_;(with_reducible refine (d_a.calls (fun k_ => (((((P0_0_ k_ ∨ P1_1_ k_) ∨ w.heap.size ≤ k_) ∧ k_ ≠ b_C) ∧ k_ ≠ b_x) ∧ k_ ≠ b_f)) _ _ l0_0 t144 _ ?side1 A21.out).mono ?_);(case side1 => exact b_j.out);rintro e w35 ⟨v145,rfl,ho0,hb⟩;refine ⟨_,rfl,?_⟩;have f_3:=a_f.mk (Kd.h_X (Kd.e_I (ok':=fun k_ => ((P0_0_ k_ ∨ P1_1_ k_) ∨ w.heap.size ≤ k_) ∧ k_ ≠ b_C ∧ k_ ≠ b_x ∧ k_ ≠ b_f) ho0 (fun k_ hk_ => ⟨Or.elim hk_ (fun hs_ => hs_.1.1.1) (fun hn_ => (.inr (Nat.le_trans (a_o (by repeat (first|(with_reducible first|exact HB.out|apply a_j|apply a_h|apply a_k|refine a_i ?_ b_9.out|refine a_i ?_ c_O.out|refine a_i ?_ d_P.out)|exact HB.out))) hn_))),Or.elim hk_ (fun hs_ => hs_.1.1.2) (fun hn_ => (Kd.e_Z (g:=b_C) (o:=.cells #[.slice A0_0 l0_0.length c0_0,.int .i64 a0_1] 37 (0,0)) (bup_ b_a.out) k_ hn_)),Or.elim hk_ (fun hs_ => hs_.1.2) (fun hn_ => (Kd.e_Z (g:=b_x) (o:=.cells #[.int .i64 a1_0,.slice A1_1 l1_1.length c1_1] 24 (0,0)) (bup_ b_g.out) k_ hn_)),Or.elim hk_ (fun hs_ => hs_.2) (fun hn_ => (Kd.e_Z (g:=b_f) (o:=.cells #[.slice none 0 0,.int .i64 0] 37 (0,0)) (bup_ b_s.out) k_ hn_))⟩)) (a_o (by repeat (first|(with_reducible first|exact HB.out|apply a_j|apply a_h|apply a_k|refine a_i ?_ b_9.out|refine a_i ?_ c_O.out|refine a_i ?_ d_P.out)|exact HB.out))));replace b_j:=a_f.mk (Kd.f_u (by (with_reducible repeat (first|apply Kd.a_T|apply Kd.a_U|apply Kd.a_1));exact b_j.out) (Kd.k_o ho0) hb);replace b_8:=a_f.mk (Kd.f_u (by (with_reducible repeat (first|apply Kd.a_T|apply Kd.a_U|apply Kd.a_1));exact b_8.out) (Kd.k_o ho0) hb);replace b_a:=a_f.mk (a_l (bup_ b_a.out) hb);replace b_g:=a_f.mk (a_l (bup_ b_g.out) hb);replace b_s:=a_f.mk (a_l (bup_ b_s.out) hb);replace HB:=a_f.mk (a_q (by repeat (first|(with_reducible first|exact HB.out|apply a_j|apply a_h|apply a_k|refine a_i ?_ b_9.out|refine a_i ?_ c_O.out|refine a_i ?_ d_P.out)|exact HB.out)) hb);(try clear hb);(try clear hb2);(try clear hk);(try clear hi);(try clear ho0);obtain ⟨Ao36,co36,eo36⟩:=Kd.g_i f_3.out;subst eo36))
 (try simp only [Act.put,sa_,sb_,sc_])
 go_cut [42] (fun v42 wc => ∃ (kq : Nat) (x42_21 : Bool),v42 = .bool x42_21 ∧ a_f (a_O.j0 kq t144 (t144.length : Int) x42_21 a1_0 l1_1 = some (r1,r2,r3)) ∧ a_f (kq ≤ k) ∧ a_f (Kd.N k24 24 wc w.heap.size (fun k_ => ((P0_0_ k_ ∨ P1_1_ k_) ∨ w.heap.size ≤ k_) ∧ k_ ≠ b_C ∧ k_ ≠ b_x ∧ k_ ≠ b_f) (.slice Ao36 t144.length co36) t144) ∧ a_f (Kd.V k24 24 wc w.heap.size (fun k_ => ((P0_0_ k_ ∨ P1_1_ k_) ∨ w.heap.size ≤ k_) ∧ some k_ ≠ ((.slice Ao36 t144.length co36) : Value).ownBlock ∧ k_ ≠ b_C ∧ k_ ≠ b_x ∧ k_ ≠ b_f) (.slice A0_0 l0_0.length c0_0) l0_0) ∧ a_f (Kd.V k33 33 wc w.heap.size (fun k_ => ((P0_0_ k_ ∨ P1_1_ k_) ∨ w.heap.size ≤ k_) ∧ some k_ ≠ ((.slice Ao36 t144.length co36) : Value).ownBlock ∧ k_ ≠ b_C ∧ k_ ≠ b_x ∧ k_ ≠ b_f) (.slice A1_1 l1_1.length c1_1) l1_1) ∧ a_f (wc.heap[b_C]? = some (.cells #[(.slice A0_0 l0_0.length c0_0),.int .i64 a0_1] 37 (0,0))) ∧ a_f (wc.heap[b_x]? = some (.cells #[.int .i64 a1_0,(.slice A1_1 l1_1.length c1_1)] 24 (0,0))) ∧ a_f (wc.heap[b_f]? = some (.cells #[(.slice none 0 0),.int .i64 0] 37 (0,0))) ∧ a_f (Below w.heap.size w wc))
 case first =>
  have H:=HC22.out
  clear HC22
  by_cases c37 : (t144.length : Int) > 0
  rotate_left
  ·rw [if_neg c37] at H
   have c37b0 : decide (0 < (t144.length : Int)) = false:=decide_eq_false c37
   have c37b1 : decide (0 < t144.length) = false:=decide_eq_false (by omega)
   clear c37
   (first|rw [c37b0]|(simp only [a_Y,a_0];rw [c37b0])|skip)
   have H':=a_f.mk H
   clear H
   try go_wp2
   replace b_j:=a_f.mk (Kd.a_1 b_j.out)
   replace b_8:=a_f.mk (Kd.a_1 b_8.out)
   replace f_3:=a_f.mk (Kd.d_K f_3.out)
   replace b_a:=a_f.mk (a_g b_a.out)
   replace b_g:=a_f.mk (a_g b_g.out)
   replace b_s:=a_f.mk (a_g b_s.out)
   replace HB:=a_f.mk (a_k HB.out)
   refine d_R (n:=13) (S:=fun w' => True) (ds:=[]) #[F_,F_,F_,F_,F_,F_,F_,F_,F_,F_,F_,F_,F_] (by kernel_rfl) rfl rfl trivial (fun hHeld => ?_);refine b_5 a_O.tab7 a_O.r_q (fun HT_ HW_ => ?_)
   generalize w35.drew = w42 at b_j b_8 f_3 b_a b_g b_s HB hHeld ⊢
   refine pt_ 0 (some 30) #[T_,F_,F_,F_,F_,F_,F_,F_,F_,F_,F_,F_,F_] HT_ ?_
   refine pt_ 1 (some 31) #[T_,T_,F_,F_,F_,F_,F_,F_,F_,F_,F_,F_,F_] HT_ ?_
   refine pt_ 2 (some 32) #[T_,T_,T_,F_,F_,F_,F_,F_,F_,F_,F_,F_,F_] HT_ ?_
   refine pk_ 3 (some 33) #[T_,T_,T_,T_,F_,F_,F_,F_,F_,F_,F_,F_,F_] HT_ ?_
   refine pk_ 4 (some 34) #[T_,T_,T_,T_,T_,F_,F_,F_,F_,F_,F_,F_,F_] HT_ ?_
   refine pk_ 5 (some 35) #[T_,T_,T_,T_,T_,T_,F_,F_,F_,F_,F_,F_,F_] HT_ ?_
   refine pk_ 6 (some 36) #[T_,T_,T_,T_,T_,T_,T_,F_,F_,F_,F_,F_,F_] HT_ ?_
   refine pk_ 7 (some 37) #[T_,T_,T_,T_,T_,T_,T_,T_,F_,F_,F_,F_,F_] HT_ ?_
   refine pk_ 8 (some 38) #[T_,T_,T_,T_,T_,T_,T_,T_,T_,F_,F_,F_,F_] HT_ ?_
   refine pk_ 9 (some 39) #[T_,T_,T_,T_,T_,T_,T_,T_,T_,T_,F_,F_,F_] HT_ ?_
   refine pk_ 10 (some 40) #[T_,T_,T_,T_,T_,T_,T_,T_,T_,T_,T_,F_,F_] HT_ ?_
   refine pk_ 11 (some 41) #[T_,T_,T_,T_,T_,T_,T_,T_,T_,T_,T_,T_,F_] HT_ ?_
   refine pt_ 12 (some 42) #[T_,T_,T_,T_,T_,T_,T_,T_,T_,T_,T_,T_,T_] HT_ ?_
   refine e_L (c_Z HT_.out (by kernel_rfl)) ?_
   try go_wp2
   go_meet
   case rel => exact ⟨_,(false),(by first|rfl|(simp;done)|(simp [*];done)),H',⟨by first|omega|exact Nat.le_refl _⟩,⟨by (with_reducible repeat (first|apply Kd.d_g|apply Kd.d_h|apply Kd.d_K));exact f_3.out⟩,⟨by (with_reducible repeat (first|apply Kd.a_T|apply Kd.a_U|apply Kd.a_1));exact Kd.c_X b_j.out (fun _ hk => ⟨hk.1.1.1.1,⟨hk.2,⟨hk.1.1.1.2,⟨hk.1.1.2,hk.1.2⟩⟩⟩⟩)⟩,⟨by (with_reducible repeat (first|apply Kd.a_T|apply Kd.a_U|apply Kd.a_1));exact Kd.c_X b_8.out (fun _ hk => ⟨hk.1.1.1.1,⟨hk.2,⟨hk.1.1.1.2,⟨hk.1.1.2,hk.1.2⟩⟩⟩⟩)⟩,⟨by (with_reducible repeat (first|refine a_e ?_ _|refine a_g ?_|refine a_d ?_ _));exact b_a.out⟩,⟨by (with_reducible repeat (first|refine a_e ?_ _|refine a_g ?_|refine a_d ?_ _));exact b_g.out⟩,⟨by (with_reducible repeat (first|refine a_e ?_ _|refine a_g ?_|refine a_d ?_ _));exact b_s.out⟩,⟨by repeat (first|(with_reducible first|exact HB.out|apply a_j|apply a_h|apply a_k|refine a_i ?_ b_9.out|refine a_i ?_ c_O.out|refine a_i ?_ d_P.out)|exact HB.out)⟩⟩
  rw [if_pos c37] at H
  have c37b0 : decide (0 < (t144.length : Int)) = true:=decide_eq_true c37
  have c37b1 : decide (0 < t144.length) = true:=decide_eq_true (by omega)
  clear c37
  (first|rw [c37b0]|(simp only [a_Y,a_0];rw [c37b0])|skip)
  obtain ⟨ji38,hji38⟩ : ∃ j_ : Int,(wrap64 ((t144.length : Int) - 1)) = j_:=⟨_,rfl⟩
  replace H : (if 0 ≤ (ji38) then (if (ji38) < (t144.length : Int) then (a_O.j0 k t144 (t144.length : Int) (((a_r t144 (ji38)).f0) == a1_0) a1_0 l1_1) else (none)) else (none)) = some (r1,r2,r3):=by first|(rw [hji38] at H;exact H)|(simp only [hji38] at H ⊢; exact H)
  have hji38w : (IntKind.i64.wrap ((t144.length : Int) - 1)) = ji38:=(a_Y _).trans hji38
  by_cases c39 : 0 ≤ (ji38)
  rotate_left
  ·rw [if_neg c39] at H
   exact absurd H (by simp)
  rw [if_pos c39] at H
  have c39b0 : decide (0 ≤ (ji38)) = true:=decide_eq_true c39
  clear c39
  by_cases c40 : (ji38) < (t144.length : Int)
  rotate_left
  ·rw [if_neg c40] at H
   exact absurd H (by simp)
  rw [if_pos c40] at H
  have c40b0 : decide ((ji38) < (t144.length : Int)) = true:=decide_eq_true c40
  clear c40
  have H':=a_f.mk H
  clear H
  try go_wp2
  replace b_j:=a_f.mk (Kd.a_1 b_j.out)
  replace b_8:=a_f.mk (Kd.a_1 b_8.out)
  replace f_3:=a_f.mk (Kd.d_K f_3.out)
  replace b_a:=a_f.mk (a_g b_a.out)
  replace b_g:=a_f.mk (a_g b_g.out)
  replace b_s:=a_f.mk (a_g b_s.out)
  replace HB:=a_f.mk (a_k HB.out)
  have p147 : 0 ≤ ((ji38) : Int):=of_decide_eq_true (by first|(with_reducible assumption)|assumption)
  have q147 : (ji38) < (t144.length : Int):=of_decide_eq_true (by first|(with_reducible assumption)|assumption)
  obtain ⟨ad147,A147_1,c147_1,e147,j_g,h_q,l_O,l_M⟩:=e_P (Kd.e_W f_3.out).2.2 (ji38) p147 q147
  cases e147
  obtain ⟨ce147,hce147,hMe147,hcc147⟩:=Kd.s_P f_3.out z24 (ji38) p147 (by first|exact q147|exact of_decide_eq_true (by first|(with_reducible assumption)|assumption)|(have e_:=(Kd.e_W f_3.out).1;omega))
  obtain ⟨ua147_1,uc147_1,rfl,ul147_1,ge147_1⟩:=l_T hMe147
  have hv147_1:=hcc147 1 _ rfl
  rw [c_M _ _ 1 (by omega)] at hv147_1
  replace hv147_1:=Option.some.inj (hv147_1.symm.trans h_q)
  injection hv147_1 with hva_ hvn_ hvc_
  rw [hva_] at ge147_1
  rw [hvc_] at ul147_1
  have HL147_1:=a_f.mk (show Kd.V k33 33 _ w.heap.size _ _ ((a_r t144 (ji38)).f1) from Kd.V_mk ul147_1 ge147_1)
  clear hva_ hvn_ hvc_ ge147_1 ul147_1 hcc147 hce147
  have n_x:=a_f.mk l_M
  have s_J:=a_f.mk l_O
  clear l_M l_O
  replace p147:=eq_true p147
  replace q147:=eq_true q147
  refine d_R (n:=13) (S:=fun w' => w'.cell? ⟨b_x,0,none⟩ = some (.int .i64 a1_0) ∧ w'.cell? ⟨b_x,1,none⟩ = some (.slice A1_1 l1_1.length c1_1) ∧ w'.cell? (ad147.add (((ji38)).toNat * 2)) = some (.int .i64 ((a_r t144 (ji38)).f0)) ∧ w'.cell? ⟨(ad147.add (((ji38)).toNat * 2)).block,(ad147.add (((ji38)).toNat * 2)).off + 1,none⟩ = some (.slice A147_1 ((a_r t144 (ji38)).f1).length c147_1)) (ds:=[]) #[F_,F_,F_,F_,F_,F_,F_,F_,F_,F_,F_,F_,F_] (by kernel_rfl) rfl rfl ⟨(a_b b_g.out 0).trans rfl,(a_b b_g.out 1).trans rfl,j_g,h_q⟩ (fun hHeld => ?_);refine b_5 a_O.tab7 a_O.r_q (fun HT_ HW_ => ?_)
  generalize w35.drew = w41 at b_j b_8 f_3 b_a b_g b_s HB HL147_1 n_x j_g h_q hHeld ⊢
  refine pt_ 0 (some 30) #[T_,F_,F_,F_,F_,F_,F_,F_,F_,F_,F_,F_,F_] HT_ ?_
  refine pt_ 1 (some 31) #[T_,T_,F_,F_,F_,F_,F_,F_,F_,F_,F_,F_,F_] HT_ ?_
  refine pt_ 2 (some 32) #[T_,T_,T_,F_,F_,F_,F_,F_,F_,F_,F_,F_,F_] HT_ ?_
  refine pt_ 3 (some 33) #[T_,T_,T_,T_,F_,F_,F_,F_,F_,F_,F_,F_,F_] HT_ ?_
  refine pt_ 4 (some 34) #[T_,T_,T_,T_,T_,F_,F_,F_,F_,F_,F_,F_,F_] HT_ ?_
  refine pt_ 5 (some 35) #[T_,T_,T_,T_,T_,T_,F_,F_,F_,F_,F_,F_,F_] HT_ ?_
  refine pt_ 6 (some 36) #[T_,T_,T_,T_,T_,T_,T_,F_,F_,F_,F_,F_,F_] HT_ ?_
  refine pt_ 7 (some 37) #[T_,T_,T_,T_,T_,T_,T_,T_,F_,F_,F_,F_,F_] HT_ ?_
  refine pt_ 9 (some 39) #[T_,T_,T_,T_,T_,T_,T_,T_,F_,T_,F_,F_,F_] HT_ ?_
  refine b_v (i:=8) (N:=some 38) (v:=?_) (a':=?_) #[T_,T_,T_,T_,T_,T_,T_,T_,T_,T_,F_,F_,F_] rfl rfl (a_N HT_.out HW_.out (by kernel_rfl)) (fun _ _ _ h => h) (Or.inl ⟨by rfl,?_⟩) hHeld ?_ ?_
  rotate_left
  ·rintro w' ⟨s0,s1,s2,s3⟩
   go_simp
   with_reducible rfl
  rotate_left
  ·simp only [Act.put,sa_,sb_,sc_,a_Y,a_0]
   rfl
  refine b_v (i:=10) (N:=some 40) (v:=?_) (a':=?_) #[T_,T_,T_,T_,T_,T_,T_,T_,T_,T_,T_,F_,F_] rfl rfl (a_N HT_.out HW_.out (by kernel_rfl)) (fun _ _ _ h => h) (Or.inl ⟨by rfl,?_⟩) hHeld ?_ ?_
  rotate_left
  ·rintro w' ⟨s0,s1,s2,s3⟩
   go_simp
   with_reducible rfl
  rotate_left
  ·simp only [Act.put,sa_,sb_,sc_,a_Y,a_0]
   rfl
  refine pt_ 11 (some 41) #[T_,T_,T_,T_,T_,T_,T_,T_,T_,T_,T_,T_,F_] HT_ ?_
  refine pt_ 12 (some 42) #[T_,T_,T_,T_,T_,T_,T_,T_,T_,T_,T_,T_,T_] HT_ ?_
  refine e_L (c_Z HT_.out (by kernel_rfl)) ?_
  try go_wp2
  go_meet
  case rel => exact ⟨_,((((a_r t144 (ji38)).f0) == a1_0)),(by first|rfl|(simp;done)|(simp only [← hji38] <;> (first|rfl|simp))|(simp [*];done)),H',⟨by first|omega|exact Nat.le_refl _⟩,⟨by (with_reducible repeat (first|apply Kd.d_g|apply Kd.d_h|apply Kd.d_K));exact f_3.out⟩,⟨by (with_reducible repeat (first|apply Kd.a_T|apply Kd.a_U|apply Kd.a_1));exact Kd.c_X b_j.out (fun _ hk => ⟨hk.1.1.1.1,⟨hk.2,⟨hk.1.1.1.2,⟨hk.1.1.2,hk.1.2⟩⟩⟩⟩)⟩,⟨by (with_reducible repeat (first|apply Kd.a_T|apply Kd.a_U|apply Kd.a_1));exact Kd.c_X b_8.out (fun _ hk => ⟨hk.1.1.1.1,⟨hk.2,⟨hk.1.1.1.2,⟨hk.1.1.2,hk.1.2⟩⟩⟩⟩)⟩,⟨by (with_reducible repeat (first|refine a_e ?_ _|refine a_g ?_|refine a_d ?_ _));exact b_a.out⟩,⟨by (with_reducible repeat (first|refine a_e ?_ _|refine a_g ?_|refine a_d ?_ _));exact b_g.out⟩,⟨by (with_reducible repeat (first|refine a_e ?_ _|refine a_g ?_|refine a_d ?_ _));exact b_s.out⟩,⟨by repeat (first|(with_reducible first|exact HB.out|apply a_j|apply a_h|apply a_k|refine a_i ?_ b_9.out|refine a_i ?_ c_O.out|refine a_i ?_ d_P.out)|exact HB.out)⟩⟩
 case rest =>
  clear HC22
  try clear c1
  try clear p1
  try clear q1
  try clear hx1
  try clear c2
  try clear p2
  try clear c3
  try clear c4
  try clear c4b0
  try clear c4b1
  try clear c6
  try clear p6
  try clear c7
  try clear c7b0
  try clear c11
  try clear c12
  try clear c14
  try clear p14
  try clear q14
  try clear hx14
  try clear c15
  try clear c19
  try clear c26
  try clear c27
  try clear c29
  try clear c30
  try clear c37
  try clear c37b0
  try clear c37b1
  try clear c39
  try clear c39b0
  try clear c40
  try clear c40b0
  try clear e_3
  try clear e_4
  try clear g_n
  try clear g_o
  try clear i_m
  try clear i_n
  try clear f_O
  try clear f_P
  try clear g_8
  try clear i_o
  try clear h_a
  try clear h_b
  try clear h_d
  try clear h_e
  try clear h_f
  try clear h_g
  try clear i_D
  try clear i_E
  try clear e_5
  try clear e_6
  try clear g_p
  try clear g_q
  try clear i_L
  try clear i_M
  try clear f_Q
  try clear f_R
  try clear h_h
  try clear i_N
  try clear h_j
  try clear h_k
  try clear h_l
  try clear h_m
  try clear h_n
  try clear h_o
  try clear i_2
  try clear i_3
  try clear j_g
  try clear h_q
  try clear p147
  try clear q147
  obtain ⟨kq,x42_21,rfl,HA,HJ21,HO_6,d_c,c_I,b_a,b_g,b_s,HB⟩:=hcut
  cases kq with
  | zero => exact absurd HA.out (by simp [a_O.j0])
  | succ kj21 =>
   have H:=HA.out
   clear HA
   simp only [a_O.j0] at H
   by_cases c43 : x42_21 = true
   rotate_left
   ·replace c43:=Bool.eq_false_iff.mpr c43
    subst c43
    have H1 : (if (t144.length : Int) = 2000 then (some (([] : List (S24)),0,6)) else (if t144.length < 4398046511104 then (some ((t144 ++ [(⟨a1_0,l1_1⟩ : S24)]),a1_0,0)) else (none))) = some (r1,r2,r3):=by rw [if_neg (show ¬ (false = true) by decide)] at H;exact H
    clear H
    have H:=H1
    clear H1
    by_cases c59 : (t144.length : Int) = 2000
    ·rw [if_pos c59] at H
     have c59b0 : ((t144.length : Int) == 2000) = true:=beq_iff_eq.mpr c59
     have c59b1 : ((t144.length : Int) != 2000) = false:=bne_eq_false_iff_eq.mpr c59
     clear c59
     simp only [Option.some.injEq,Prod.mk.injEq] at H
     obtain ⟨rfl,rfl,rfl⟩:=H
     have z_t:=c_K.out
     have z_Z:=c_J.out
     have z_u:=c_L.out
     have z_0:=b_H.out
     have u_Z : wc.cell? ⟨b_f,0,none⟩ = some (.slice none 0 0):=(a_b b_s.out 0).trans rfl
     have u_0 : wc.cell? ⟨b_f,1,none⟩ = some (.int .i64 0):=(a_b b_s.out 1).trans rfl
     have x_u:=a_c b_s.out 0
     have x_v:=a_c b_s.out 1
     go_wp2
     refine bodyPost_ret (c_g rfl _ _ b_f 37 #[.slice none 0 0,.int .i64 0] (0,0) _ rfl (by (with_reducible repeat (first|refine a_e ?_ _|refine a_g ?_|refine a_d ?_ _));refine a_n (cs:=#[.slice none 0 0,.int .i64 0]) ?_ 1 _ rfl;(with_reducible repeat (first|refine a_e ?_ _|refine a_g ?_|refine a_d ?_ _));refine a_n (cs:=#[.slice none 0 0,.int .i64 0]) ?_ 0 _ rfl;(with_reducible repeat (first|refine a_e ?_ _|refine a_g ?_|refine a_d ?_ _));exact b_s.out) Tryd.underlying37 rfl (by kernel_rfl)) rfl ?_
     exact ⟨_,by first|rfl|(simp [a_u,a_v] <;> rfl)|(simp [*, a_u,a_v] <;> rfl),by first|exact Kd.j_6 _ _ _ _ _|exact Kd.h_Y _ _ _ _ _|exact Kd.g_F _ _ _ _ _|exact Kd.j_4 _ _ _ _ _|exact Kd.g_2 _ _ _ _ _,by repeat (first|(with_reducible first|exact HB.out|apply a_j|apply a_h|apply a_k|refine a_i ?_ b_9.out|refine a_i ?_ c_O.out|refine a_i ?_ d_P.out)|exact HB.out)⟩
    rw [if_neg c59] at H
    have c59b0 : ((t144.length : Int) == 2000) = false:=beq_eq_false_iff_ne.mpr c59
    have c59b1 : ((t144.length : Int) != 2000) = true:=bne_iff_ne.mpr c59
    by_cases c63 : t144.length < 4398046511104
    rotate_left
    ·rw [if_neg c63] at H
     exact absurd H (by simp)
    rw [if_pos c63] at H
    have LMc63:=a_f.mk c63
    clear c63
    obtain ⟨y154,hy154⟩ : ∃ y_ : List (S24),y_ = (t144 ++ [(⟨a1_0,l1_1⟩ : S24)]):=⟨_,rfl⟩
    replace H : (some (y154,a1_0,0)) = some (r1,r2,r3):=by first|(rw [hy154];with_reducible exact H)|(have H2_:=(Option.bind_some _ _).symm.trans H;rw [hy154];with_reducible exact H2_)|(have H2_:=(Option.bind_some _ _).symm.trans H;with_reducible exact H2_)|with_reducible exact H|(rw [hy154];exact H)|exact H
    have Ny154:=a_f.mk hy154
    clear hy154
    simp only [Option.some.injEq,Prod.mk.injEq] at H
    obtain ⟨rfl,rfl,rfl⟩:=H
    try go_wp2
    replace HO_6:=a_f.mk (Kd.d_K HO_6.out)
    replace d_c:=a_f.mk (Kd.a_1 d_c.out)
    replace c_I:=a_f.mk (Kd.a_1 c_I.out)
    replace b_a:=a_f.mk (a_g b_a.out)
    replace b_g:=a_f.mk (a_g b_g.out)
    replace b_s:=a_f.mk (a_g b_s.out)
    replace HB:=a_f.mk (a_k HB.out)
    refine d_R (n:=9) (S:=fun w' => w'.cell? ⟨b_x,0,none⟩ = some (.int .i64 a1_0) ∧ w'.cell? ⟨b_x,1,none⟩ = some (.slice A1_1 l1_1.length c1_1)) (ds:=[]) #[F_,F_,F_,F_,F_,F_,F_,F_,F_] (by kernel_rfl) rfl rfl ⟨(a_b b_g.out 0).trans rfl,(a_b b_g.out 1).trans rfl⟩ (fun hHeld => ?_);refine b_5 a_O.m_N a_O.j_H (fun HT_ HW_ => ?_)
    generalize wc.drew = w64 at HO_6 d_c c_I b_a b_g b_s HB hHeld ⊢
    refine pt_ 0 (some 51) #[T_,F_,F_,F_,F_,F_,F_,F_,F_] HT_ ?_
    refine pt_ 4 (some 55) #[T_,F_,F_,F_,T_,F_,F_,F_,F_] HT_ ?_
    refine b_v (i:=1) (N:=some 52) (v:=?_) (a':=?_) #[T_,T_,F_,F_,T_,F_,F_,F_,F_] rfl rfl (a_N HT_.out HW_.out (by kernel_rfl)) (fun _ _ _ h => h) (Or.inl ⟨by rfl,?_⟩) hHeld ?_ ?_
    rotate_left
    ·rintro w' ⟨s0,s1⟩
     go_simp
     with_reducible rfl
    rotate_left
    ·simp only [Act.put,sa_,sb_,sc_,a_Y,a_0]
     rfl
    refine b_v (i:=5) (N:=some 56) (v:=?_) (a':=?_) #[T_,T_,F_,F_,T_,T_,F_,F_,F_] rfl rfl (a_N HT_.out HW_.out (by kernel_rfl)) (fun _ _ _ h => h) (Or.inl ⟨by rfl,?_⟩) hHeld ?_ ?_
    rotate_left
    ·rintro w' ⟨s0,s1⟩
     go_simp
     with_reducible rfl
    rotate_left
    ·simp only [Act.put,sa_,sb_,sc_,a_Y,a_0]
     rfl
    refine one_ (i:=2) (N:=some 53) #[T_,T_,T_,F_,T_,T_,F_,F_,F_] rfl rfl (c_B HT_.out (by kernel_rfl)) (by decide) (fun K hK => ?_)
    refine n_f (w1:=?_) (v:=?_) (by rfl) rfl ?_ ?_
    rotate_left 2
    ·go_simp
     constructor
     ·rfl
     rfl
    refine hK.out _ _ ⟨(a_b (a_d b_g.out _) 0).trans rfl,(a_b (a_d b_g.out _) 1).trans rfl⟩ (fun hHeld => ?_)
    clear hK K
    refine d_Y (a':=?_) ?_ ?_
    rotate_left
    ·show Act.put _ (some 53) _ = _
     simp only [Act.put,sa_,sb_,sc_,a_Y,a_0]
     rfl
    refine one_ (i:=3) (N:=some 54) #[T_,T_,T_,T_,T_,T_,F_,F_,F_] rfl rfl (c_B HT_.out (by kernel_rfl)) (by decide) (fun K hK => ?_)
    refine Kd.f_r k24 (w0:=w) w.heap.size (by rfl) (.tmp 51) (.tmp 53) 35 24 (.agg #[(.int .i64 0),(.slice none 0 0)]) 32 rfl Tryd.underlying35 h_K rfl (by decide) (by omega) (.slice Ao36 t144.length co36) t144 (⟨a1_0,l1_1⟩ : S24) [.int .i64 a1_0,.slice A1_1 l1_1.length c1_1] (fun k_ => ((P0_0_ k_ ∨ P1_1_ k_) ∨ w.heap.size ≤ k_) ∧ k_ ≠ b_C ∧ k_ ≠ b_x ∧ k_ ≠ b_f) (fun k_ => ((fun k_ => ((P0_0_ k_ ∨ P1_1_ k_) ∨ w.heap.size ≤ k_) ∧ k_ ≠ b_C ∧ k_ ≠ b_x ∧ k_ ≠ b_f)) k_ ∧ some k_ ≠ (.slice Ao36 t144.length co36 : Value).ownBlock) rfl rfl ?aP (fun _ hk => hk) ?aF ?aO ?aB ?aS ?aL ?_
    (case aP => exact (l_S _ _ (⟨a1_0,l1_1⟩ : S24) (Kd.b_w (Kd.c_X (ok':=(fun k_ => ((fun k_ => ((P0_0_ k_ ∨ P1_1_ k_) ∨ w.heap.size ≤ k_) ∧ k_ ≠ b_C ∧ k_ ≠ b_x ∧ k_ ≠ b_f)) k_ ∧ some k_ ≠ (.slice Ao36 t144.length co36 : Value).ownBlock)) (c_I.out) (fun k_ hk => ⟨⟨hk.1,⟨hk.2.2.1,⟨hk.2.2.2.1,hk.2.2.2.2⟩⟩⟩,(by first|exact hk.2.1|exact own_ne hk.2.1)⟩))).2.1 (Kd.V_F (Kd.c_X (ok':=(fun k_ => ((fun k_ => ((P0_0_ k_ ∨ P1_1_ k_) ∨ w.heap.size ≤ k_) ∧ k_ ≠ b_C ∧ k_ ≠ b_x ∧ k_ ≠ b_f)) k_ ∧ some k_ ≠ (.slice Ao36 t144.length co36 : Value).ownBlock)) (c_I.out) (fun k_ hk => ⟨⟨hk.1,⟨hk.2.2.1,⟨hk.2.2.2.1,hk.2.2.2.2⟩⟩⟩,(by first|exact hk.2.1|exact own_ne hk.2.1)⟩)))))
    (case aB => exact (by repeat (first|(with_reducible first|exact HB.out|apply a_j|apply a_h|apply a_k|refine a_i ?_ b_9.out|refine a_i ?_ c_O.out|refine a_i ?_ d_P.out)|exact HB.out)))
    (case aF => exact (fun k_ hk => ⟨(.inr (Nat.le_trans (a_o (by repeat (first|(with_reducible first|exact HB.out|apply a_j|apply a_h|apply a_k|refine a_i ?_ b_9.out|refine a_i ?_ c_O.out|refine a_i ?_ d_P.out)|exact HB.out))) hk)),Kd.e_Z (g:=b_C) (o:=.cells #[.slice A0_0 l0_0.length c0_0,.int .i64 a0_1] 37 (0,0)) (bup_ b_a.out) k_ hk,Kd.e_Z (g:=b_x) (o:=.cells #[.int .i64 a1_0,.slice A1_1 l1_1.length c1_1] 24 (0,0)) (bup_ b_g.out) k_ hk,Kd.e_Z (g:=b_f) (o:=.cells #[.slice none 0 0,.int .i64 0] 37 (0,0)) (bup_ b_s.out) k_ hk⟩))
    (case aO => exact (by (with_reducible repeat (first|apply Kd.d_g|apply Kd.d_h|apply Kd.d_K));exact HO_6.out))
    (case aS => exact (a_o (by repeat (first|(with_reducible first|exact HB.out|apply a_j|apply a_h|apply a_k|refine a_i ?_ b_9.out|refine a_i ?_ c_O.out|refine a_i ?_ d_P.out)|exact HB.out))))
    (case aL => have:=LMc63.out;omega)
    intro v155 w65 ho hb hg hat
    rw [← Ny154.out] at ho
    have r_a:=a_f.mk (ho)
    replace d_c:=a_f.mk (Kd.f_t (ok:=(fun k_ => ((P0_0_ k_ ∨ P1_1_ k_) ∨ w.heap.size ≤ k_) ∧ k_ ≠ b_C ∧ k_ ≠ b_x ∧ k_ ≠ b_f)) (by (with_reducible repeat (first|apply Kd.a_T|apply Kd.a_U|apply Kd.a_1));exact Kd.c_X d_c.out (fun _ hk => ⟨⟨hk.1,⟨hk.2.2.1,⟨hk.2.2.2.1,hk.2.2.2.2⟩⟩⟩,(by first|exact hk.2.1|exact own_ne hk.2.1)⟩)) hg hat)
    replace c_I:=a_f.mk (Kd.f_t (ok:=(fun k_ => ((P0_0_ k_ ∨ P1_1_ k_) ∨ w.heap.size ≤ k_) ∧ k_ ≠ b_C ∧ k_ ≠ b_x ∧ k_ ≠ b_f)) (by (with_reducible repeat (first|apply Kd.a_T|apply Kd.a_U|apply Kd.a_1));exact Kd.c_X c_I.out (fun _ hk => ⟨⟨hk.1,⟨hk.2.2.1,⟨hk.2.2.2.1,hk.2.2.2.2⟩⟩⟩,(by first|exact hk.2.1|exact own_ne hk.2.1)⟩)) hg hat)
    replace b_a:=a_f.mk (e_l (g:=b_C) (o:=.cells #[.slice A0_0 l0_0.length c0_0,.int .i64 a0_1] 37 (0,0)) (bup_ b_a.out) hg (Kd.N_ne HO_6.out b_a.out (by decide)))
    replace b_g:=a_f.mk (e_l (g:=b_x) (o:=.cells #[.int .i64 a1_0,.slice A1_1 l1_1.length c1_1] 24 (0,0)) (bup_ b_g.out) hg (Kd.m_V HO_6.out (fun _ hk => hk.2.2.1)))
    replace b_s:=a_f.mk (e_l (g:=b_f) (o:=.cells #[.slice none 0 0,.int .i64 0] 37 (0,0)) (bup_ b_s.out) hg (Kd.N_ne HO_6.out b_s.out (by decide)))
    replace HB:=a_f.mk (hb)
    clear HO_6 ho hb hg hat
    obtain ⟨Ao66,co66,eo66⟩:=Kd.g_i r_a.out
    (first|subst eo66|(injection eo66 with f1_ f2_ f3_;have f4_:=f1_.symm;have f5_:=f3_.symm;clear f1_ f2_ f3_;subst f4_;subst f5_))
    refine hK.out _ _ ⟨(a_b b_g.out 0).trans rfl,(a_b b_g.out 1).trans rfl⟩ (fun hHeld => ?_)
    clear hK K
    refine d_Y (a':=?_) ?_ ?_
    rotate_left
    ·show Act.put _ (some 54) _ = _
     simp only [Act.put,sa_,sb_,sc_,a_Y,a_0]
     rfl
    refine pt_ 6 (some 57) #[T_,T_,T_,T_,T_,T_,T_,F_,F_] HT_ ?_
    refine one_ (i:=7) (N:=none) #[T_,T_,T_,T_,T_,T_,T_,T_,F_] rfl rfl (c_B HT_.out (by kernel_rfl)) (by decide) (fun K hK => ?_)
    have hs67 : w65.cell? ⟨b_f,0,none⟩ = some (.slice none 0 0):=(a_b b_s.out 0).trans rfl
    have hfs67:=a_c b_s.out 0
    have hns67_0:=c_J.out
    have hns67_1:=b_H.out
    have hms67_0:=c_K.out
    have hms67_1:=c_L.out
    have hs68 : w65.cell? ⟨b_f,1,none⟩ = some (.int .i64 0):=(a_b b_s.out 1).trans rfl
    have hfs68:=a_c b_s.out 1
    have hns68_0:=c_J.out
    have hns68_1:=b_H.out
    have hms68_0:=c_K.out
    have hms68_1:=c_L.out
    refine m_M (w1:=?_) (by rfl) rfl ?_ ?_
    rotate_left
    ·go_simp
     rfl
    refine hK.out _ _ ⟨((cell_far (p:=⟨b_f,_,none⟩) b_H.out _).trans (((cell_far (p:=⟨b_f,_,none⟩) b_H.out _).trans (hHeld.1)))),((cell_far (p:=⟨b_f,_,none⟩) b_H.out _).trans (((cell_far (p:=⟨b_f,_,none⟩) b_H.out _).trans (hHeld.2))))⟩ (fun hHeld => ?_)
    clear hK K
    refine pt_ 8 (some 5) #[T_,T_,T_,T_,T_,T_,T_,T_,T_] HT_ ?_
    refine e_L (c_Z HT_.out (by kernel_rfl)) ?_
    try go_wp2
    refine bodyPost_ret (c_g rfl _ _ b_f 37 #[.slice Ao66 y154.length co66,.int .i64 a1_0] (0,0) _ rfl (by (with_reducible repeat (first|refine a_e ?_ _|refine a_g ?_|refine a_d ?_ _));refine a_n (cs:=#[.slice Ao66 y154.length co66,.int .i64 0]) ?_ 1 _ rfl;(with_reducible repeat (first|refine a_e ?_ _|refine a_g ?_|refine a_d ?_ _));refine a_n (cs:=#[.slice none 0 0,.int .i64 0]) ?_ 0 _ rfl;(with_reducible repeat (first|refine a_e ?_ _|refine a_g ?_|refine a_d ?_ _));exact b_s.out) Tryd.underlying37 rfl (by kernel_rfl)) rfl ?_
    exact ⟨_,by first|rfl|(simp [a_u,a_v] <;> rfl)|(simp [*, a_u,a_v] <;> rfl),by (with_reducible repeat (first|apply Kd.d_g|apply Kd.d_h|apply Kd.d_K));exact Kd.e_I (Kd.h_B (p:=⟨b_f,1,none⟩) (Kd.h_B (p:=⟨b_f,0,none⟩) (Kd.e_I r_a.out (fun k_ hk => (⟨hk,hk.2.2.2⟩ : _ ∧ k_ ≠ b_f))) (fun _ hk => hk.2) (.slice Ao66 y154.length co66)) (fun _ hk => hk.2) (.int .i64 a1_0)) (fun _ hk => hk.1.1),by repeat (first|(with_reducible first|exact HB.out|apply a_j|apply a_h|apply a_k|refine a_i ?_ b_9.out|refine a_i ?_ c_O.out|refine a_i ?_ d_P.out)|exact HB.out)⟩
   subst c43
   have H1 : (if 0 ≤ (wrap64 ((t144.length : Int) - 1)) then (if (wrap64 ((t144.length : Int) - 1)) ≤ (t144.length : Int) then ((some (t144.take ((wrap64 ((t144.length : Int) - 1)) : Int).toNat : List (S24))).bind fun y148 => (if (y148.length : Int) = 2000 then (some (([] : List (S24)),0,6)) else (if y148.length < 4398046511104 then (some ((y148 ++ [(⟨a1_0,l1_1⟩ : S24)]),a1_0,0)) else (none)))) else (none)) else (none)) = some (r1,r2,r3):=by rw [if_pos rfl] at H;exact H
   clear H
   have H:=H1
   clear H1
   obtain ⟨ji44,hji44⟩ : ∃ j_ : Int,(wrap64 ((t144.length : Int) - 1)) = j_:=⟨_,rfl⟩
   replace H : (if 0 ≤ (ji44) then (if (ji44) ≤ (t144.length : Int) then ((some (t144.take ((ji44) : Int).toNat : List (S24))).bind fun y148 => (if (y148.length : Int) = 2000 then (some (([] : List (S24)),0,6)) else (if y148.length < 4398046511104 then (some ((y148 ++ [(⟨a1_0,l1_1⟩ : S24)]),a1_0,0)) else (none)))) else (none)) else (none)) = some (r1,r2,r3):=by first|(rw [hji44] at H;exact H)|(simp only [hji44] at H ⊢; exact H)
   have hji44w : (IntKind.i64.wrap ((t144.length : Int) - 1)) = ji44:=(a_Y _).trans hji44
   by_cases c45 : 0 ≤ (ji44)
   rotate_left
   ·rw [if_neg c45] at H
    exact absurd H (by simp)
   rw [if_pos c45] at H
   have c45b0:=eq_true c45
   have c45b1 : decide (0 ≤ (ji44)) = true:=decide_eq_true c45
   clear c45
   by_cases c46 : (ji44) ≤ (t144.length : Int)
   rotate_left
   ·rw [if_neg c46] at H
    exact absurd H (by simp)
   rw [if_pos c46] at H
   have c46b0:=eq_true c46
   have c46b1 : decide ((ji44) ≤ (t144.length : Int)) = true:=decide_eq_true c46
   clear c46
   obtain ⟨y148,hy148⟩ : ∃ y_ : List (S24),y_ = (t144.take ((ji44) : Int).toNat):=⟨_,rfl⟩
   replace H : (if (y148.length : Int) = 2000 then (some (([] : List (S24)),0,6)) else (if y148.length < 4398046511104 then (some ((y148 ++ [(⟨a1_0,l1_1⟩ : S24)]),a1_0,0)) else (none))) = some (r1,r2,r3):=by first|(rw [hy148];with_reducible exact H)|(have H2_:=(Option.bind_some _ _).symm.trans H;rw [hy148];with_reducible exact H2_)|(have H2_:=(Option.bind_some _ _).symm.trans H;with_reducible exact H2_)|with_reducible exact H|(rw [hy148];exact H)|exact H
   have Ny148:=a_f.mk hy148
   clear hy148
   by_cases c47 : (y148.length : Int) = 2000
   ·rw [if_pos c47] at H
    have c47b0 : ((y148.length : Int) == 2000) = true:=beq_iff_eq.mpr c47
    have c47b1 : ((y148.length : Int) != 2000) = false:=bne_eq_false_iff_eq.mpr c47
    clear c47
    simp only [Option.some.injEq,Prod.mk.injEq] at H
    obtain ⟨rfl,rfl,rfl⟩:=H
    have q48 : ((ji44) : Int) ≤ ((t144.length : Int) : Int):=of_decide_eq_true (by first|(with_reducible assumption)|assumption)
    obtain ⟨i048,r_C,_,hsz48,_⟩:=info_parts h_K
    have hcut48:=m_Y (P:=Tryd.prog) 35 24 .i64 Tryd.underlying35 r_C Ao36 t144.length co36 (ji44) (of_decide_eq_true (by first|(with_reducible assumption)|assumption)) q48 (Kd.e_W HO_6.out).2.1
    have hr48:=Kd.m_W (m:=((ji44) : Int).toNat) HO_6.out (by omega)
    have hy48 : y148.length = ((ji44) : Int).toNat:=(by rw [Ny148.out,List.length_take];omega)
    rw [← Ny148.out] at hr48
    rw [← hy48] at hr48 hcut48
    clear hy48 r_C hsz48 HO_6
    have g_Y:=a_f.mk hr48
    clear hr48
    replace q48:=eq_true q48
    have z_p:=c_K.out
    have z_V:=c_J.out
    have x_2:=c_L.out
    have y_b:=b_H.out
    have l_a : wc.cell? ⟨b_f,0,none⟩ = some (.slice none 0 0):=(a_b b_s.out 0).trans rfl
    have l_b : wc.cell? ⟨b_f,1,none⟩ = some (.int .i64 0):=(a_b b_s.out 1).trans rfl
    have l_K:=a_c b_s.out 0
    have l_L:=a_c b_s.out 1
    go_wp2
    refine bodyPost_ret (c_g rfl _ _ b_f 37 #[.slice none 0 0,.int .i64 0] (0,0) _ rfl (by (with_reducible repeat (first|refine a_e ?_ _|refine a_g ?_|refine a_d ?_ _));refine a_n (cs:=#[.slice none 0 0,.int .i64 0]) ?_ 1 _ rfl;(with_reducible repeat (first|refine a_e ?_ _|refine a_g ?_|refine a_d ?_ _));refine a_n (cs:=#[.slice none 0 0,.int .i64 0]) ?_ 0 _ rfl;(with_reducible repeat (first|refine a_e ?_ _|refine a_g ?_|refine a_d ?_ _));exact b_s.out) Tryd.underlying37 rfl (by kernel_rfl)) rfl ?_
    exact ⟨_,by first|rfl|(simp [a_u,a_v] <;> rfl)|(simp only [← hji44];first|rfl|(simp [a_u,a_v] <;> rfl))|(simp [*, a_u,a_v] <;> rfl),by first|exact Kd.j_6 _ _ _ _ _|exact Kd.h_Y _ _ _ _ _|exact Kd.g_F _ _ _ _ _|exact Kd.j_4 _ _ _ _ _|exact Kd.g_2 _ _ _ _ _,by repeat (first|(with_reducible first|exact HB.out|apply a_j|apply a_h|apply a_k|refine a_i ?_ b_9.out|refine a_i ?_ c_O.out|refine a_i ?_ d_P.out)|exact HB.out)⟩
   rw [if_neg c47] at H
   have c47b0 : ((y148.length : Int) == 2000) = false:=beq_eq_false_iff_ne.mpr c47
   have c47b1 : ((y148.length : Int) != 2000) = true:=bne_iff_ne.mpr c47
   by_cases c52 : y148.length < 4398046511104
   rotate_left
   ·rw [if_neg c52] at H
    exact absurd H (by simp)
   rw [if_pos c52] at H
   have LMc52:=a_f.mk c52
   clear c52
   obtain ⟨y151,hy151⟩ : ∃ y_ : List (S24),y_ = (y148 ++ [(⟨a1_0,l1_1⟩ : S24)]):=⟨_,rfl⟩
   replace H : (some (y151,a1_0,0)) = some (r1,r2,r3):=by first|(rw [hy151];with_reducible exact H)|(have H2_:=(Option.bind_some _ _).symm.trans H;rw [hy151];with_reducible exact H2_)|(have H2_:=(Option.bind_some _ _).symm.trans H;with_reducible exact H2_)|with_reducible exact H|(rw [hy151];exact H)|exact H
   have Ny151:=a_f.mk hy151
   clear hy151
   simp only [Option.some.injEq,Prod.mk.injEq] at H
   obtain ⟨rfl,rfl,rfl⟩:=H
   have q53 : ((ji44) : Int) ≤ ((t144.length : Int) : Int):=of_decide_eq_true (by first|(with_reducible assumption)|assumption)
   obtain ⟨i053,r_D,_,hsz53,_⟩:=info_parts h_K
   have hcut53:=m_Y (P:=Tryd.prog) 35 24 .i64 Tryd.underlying35 r_D Ao36 t144.length co36 (ji44) (of_decide_eq_true (by first|(with_reducible assumption)|assumption)) q53 (Kd.e_W HO_6.out).2.1
   have hr53:=Kd.m_W (m:=((ji44) : Int).toNat) HO_6.out (by omega)
   have hy53 : y148.length = ((ji44) : Int).toNat:=(by rw [Ny148.out,List.length_take];omega)
   rw [← Ny148.out] at hr53
   rw [← hy53] at hr53 hcut53
   clear hy53 r_D hsz53 HO_6
   have g_Y:=a_f.mk hr53
   clear hr53
   replace q53:=eq_true q53
   try go_wp2
   replace g_Y:=a_f.mk (Kd.d_K g_Y.out)
   replace d_c:=a_f.mk (Kd.a_1 d_c.out)
   replace c_I:=a_f.mk (Kd.a_1 c_I.out)
   replace b_a:=a_f.mk (a_g b_a.out)
   replace b_g:=a_f.mk (a_g b_g.out)
   replace b_s:=a_f.mk (a_g b_s.out)
   replace HB:=a_f.mk (a_k HB.out)
   refine d_R (n:=9) (S:=fun w' => w'.cell? ⟨b_x,0,none⟩ = some (.int .i64 a1_0) ∧ w'.cell? ⟨b_x,1,none⟩ = some (.slice A1_1 l1_1.length c1_1)) (ds:=[]) #[F_,F_,F_,F_,F_,F_,F_,F_,F_] (by kernel_rfl) rfl rfl ⟨(a_b b_g.out 0).trans rfl,(a_b b_g.out 1).trans rfl⟩ (fun hHeld => ?_);refine b_5 a_O.m_N a_O.j_H (fun HT_ HW_ => ?_)
   generalize wc.drew = w54 at g_Y d_c c_I b_a b_g b_s HB hHeld ⊢
   refine pt_ 0 (some 51) #[T_,F_,F_,F_,F_,F_,F_,F_,F_] HT_ ?_
   refine pt_ 4 (some 55) #[T_,F_,F_,F_,T_,F_,F_,F_,F_] HT_ ?_
   refine b_v (i:=1) (N:=some 52) (v:=?_) (a':=?_) #[T_,T_,F_,F_,T_,F_,F_,F_,F_] rfl rfl (a_N HT_.out HW_.out (by kernel_rfl)) (fun _ _ _ h => h) (Or.inl ⟨by rfl,?_⟩) hHeld ?_ ?_
   rotate_left
   ·rintro w' ⟨s0,s1⟩
    go_simp
    with_reducible rfl
   rotate_left
   ·simp only [Act.put,sa_,sb_,sc_,a_Y,a_0]
    rfl
   refine b_v (i:=5) (N:=some 56) (v:=?_) (a':=?_) #[T_,T_,F_,F_,T_,T_,F_,F_,F_] rfl rfl (a_N HT_.out HW_.out (by kernel_rfl)) (fun _ _ _ h => h) (Or.inl ⟨by rfl,?_⟩) hHeld ?_ ?_
   rotate_left
   ·rintro w' ⟨s0,s1⟩
    go_simp
    with_reducible rfl
   rotate_left
   ·simp only [Act.put,sa_,sb_,sc_,a_Y,a_0]
    rfl
   refine one_ (i:=2) (N:=some 53) #[T_,T_,T_,F_,T_,T_,F_,F_,F_] rfl rfl (c_B HT_.out (by kernel_rfl)) (by decide) (fun K hK => ?_)
   refine n_f (w1:=?_) (v:=?_) (by rfl) rfl ?_ ?_
   rotate_left 2
   ·go_simp
    constructor
    ·rfl
    rfl
   refine hK.out _ _ ⟨(a_b (a_d b_g.out _) 0).trans rfl,(a_b (a_d b_g.out _) 1).trans rfl⟩ (fun hHeld => ?_)
   clear hK K
   refine d_Y (a':=?_) ?_ ?_
   rotate_left
   ·show Act.put _ (some 53) _ = _
    simp only [Act.put,sa_,sb_,sc_,a_Y,a_0]
    rfl
   refine one_ (i:=3) (N:=some 54) #[T_,T_,T_,T_,T_,T_,F_,F_,F_] rfl rfl (c_B HT_.out (by kernel_rfl)) (by decide) (fun K hK => ?_)
   refine Kd.f_r k24 (w0:=w) w.heap.size (by rfl) (.tmp 51) (.tmp 53) 35 24 (.agg #[(.int .i64 0),(.slice none 0 0)]) 32 rfl Tryd.underlying35 h_K rfl (by decide) (by omega) (.slice Ao36 y148.length co36) y148 (⟨a1_0,l1_1⟩ : S24) [.int .i64 a1_0,.slice A1_1 l1_1.length c1_1] (fun k_ => ((P0_0_ k_ ∨ P1_1_ k_) ∨ w.heap.size ≤ k_) ∧ k_ ≠ b_C ∧ k_ ≠ b_x ∧ k_ ≠ b_f) (fun k_ => ((fun k_ => ((P0_0_ k_ ∨ P1_1_ k_) ∨ w.heap.size ≤ k_) ∧ k_ ≠ b_C ∧ k_ ≠ b_x ∧ k_ ≠ b_f)) k_ ∧ some k_ ≠ (.slice Ao36 y148.length co36 : Value).ownBlock) rfl rfl ?aP (fun _ hk => hk) ?aF ?aO ?aB ?aS ?aL ?_
   (case aP => exact (l_S _ _ (⟨a1_0,l1_1⟩ : S24) (Kd.b_w (Kd.c_X (ok':=(fun k_ => ((fun k_ => ((P0_0_ k_ ∨ P1_1_ k_) ∨ w.heap.size ≤ k_) ∧ k_ ≠ b_C ∧ k_ ≠ b_x ∧ k_ ≠ b_f)) k_ ∧ some k_ ≠ (.slice Ao36 y148.length co36 : Value).ownBlock)) (c_I.out) (fun k_ hk => ⟨⟨hk.1,⟨hk.2.2.1,⟨hk.2.2.2.1,hk.2.2.2.2⟩⟩⟩,(by first|exact hk.2.1|exact own_ne hk.2.1)⟩))).2.1 (Kd.V_F (Kd.c_X (ok':=(fun k_ => ((fun k_ => ((P0_0_ k_ ∨ P1_1_ k_) ∨ w.heap.size ≤ k_) ∧ k_ ≠ b_C ∧ k_ ≠ b_x ∧ k_ ≠ b_f)) k_ ∧ some k_ ≠ (.slice Ao36 y148.length co36 : Value).ownBlock)) (c_I.out) (fun k_ hk => ⟨⟨hk.1,⟨hk.2.2.1,⟨hk.2.2.2.1,hk.2.2.2.2⟩⟩⟩,(by first|exact hk.2.1|exact own_ne hk.2.1)⟩)))))
   (case aB => exact (by repeat (first|(with_reducible first|exact HB.out|apply a_j|apply a_h|apply a_k|refine a_i ?_ b_9.out|refine a_i ?_ c_O.out|refine a_i ?_ d_P.out)|exact HB.out)))
   (case aF => exact (fun k_ hk => ⟨(.inr (Nat.le_trans (a_o (by repeat (first|(with_reducible first|exact HB.out|apply a_j|apply a_h|apply a_k|refine a_i ?_ b_9.out|refine a_i ?_ c_O.out|refine a_i ?_ d_P.out)|exact HB.out))) hk)),Kd.e_Z (g:=b_C) (o:=.cells #[.slice A0_0 l0_0.length c0_0,.int .i64 a0_1] 37 (0,0)) (bup_ b_a.out) k_ hk,Kd.e_Z (g:=b_x) (o:=.cells #[.int .i64 a1_0,.slice A1_1 l1_1.length c1_1] 24 (0,0)) (bup_ b_g.out) k_ hk,Kd.e_Z (g:=b_f) (o:=.cells #[.slice none 0 0,.int .i64 0] 37 (0,0)) (bup_ b_s.out) k_ hk⟩))
   (case aO => exact (by (with_reducible repeat (first|apply Kd.d_g|apply Kd.d_h|apply Kd.d_K));exact g_Y.out))
   (case aS => exact (a_o (by repeat (first|(with_reducible first|exact HB.out|apply a_j|apply a_h|apply a_k|refine a_i ?_ b_9.out|refine a_i ?_ c_O.out|refine a_i ?_ d_P.out)|exact HB.out))))
   (case aL => have:=LMc52.out;omega)
   intro v152 w55 ho hb hg hat
   rw [← Ny151.out] at ho
   have q_9:=a_f.mk (ho)
   replace d_c:=a_f.mk (Kd.f_t (ok:=(fun k_ => ((P0_0_ k_ ∨ P1_1_ k_) ∨ w.heap.size ≤ k_) ∧ k_ ≠ b_C ∧ k_ ≠ b_x ∧ k_ ≠ b_f)) (by (with_reducible repeat (first|apply Kd.a_T|apply Kd.a_U|apply Kd.a_1));exact Kd.c_X d_c.out (fun _ hk => ⟨⟨hk.1,⟨hk.2.2.1,⟨hk.2.2.2.1,hk.2.2.2.2⟩⟩⟩,(by first|exact hk.2.1|exact own_ne hk.2.1)⟩)) hg hat)
   replace c_I:=a_f.mk (Kd.f_t (ok:=(fun k_ => ((P0_0_ k_ ∨ P1_1_ k_) ∨ w.heap.size ≤ k_) ∧ k_ ≠ b_C ∧ k_ ≠ b_x ∧ k_ ≠ b_f)) (by (with_reducible repeat (first|apply Kd.a_T|apply Kd.a_U|apply Kd.a_1));exact Kd.c_X c_I.out (fun _ hk => ⟨⟨hk.1,⟨hk.2.2.1,⟨hk.2.2.2.1,hk.2.2.2.2⟩⟩⟩,(by first|exact hk.2.1|exact own_ne hk.2.1)⟩)) hg hat)
   replace b_a:=a_f.mk (e_l (g:=b_C) (o:=.cells #[.slice A0_0 l0_0.length c0_0,.int .i64 a0_1] 37 (0,0)) (bup_ b_a.out) hg (Kd.N_ne g_Y.out b_a.out (by decide)))
   replace b_g:=a_f.mk (e_l (g:=b_x) (o:=.cells #[.int .i64 a1_0,.slice A1_1 l1_1.length c1_1] 24 (0,0)) (bup_ b_g.out) hg (Kd.m_V g_Y.out (fun _ hk => hk.2.2.1)))
   replace b_s:=a_f.mk (e_l (g:=b_f) (o:=.cells #[.slice none 0 0,.int .i64 0] 37 (0,0)) (bup_ b_s.out) hg (Kd.N_ne g_Y.out b_s.out (by decide)))
   replace HB:=a_f.mk (hb)
   clear g_Y ho hb hg hat
   obtain ⟨Ao56,co56,eo56⟩:=Kd.g_i q_9.out
   (first|subst eo56|(injection eo56 with f1_ f2_ f3_;have f4_:=f1_.symm;have f5_:=f3_.symm;clear f1_ f2_ f3_;subst f4_;subst f5_))
   refine hK.out _ _ ⟨(a_b b_g.out 0).trans rfl,(a_b b_g.out 1).trans rfl⟩ (fun hHeld => ?_)
   clear hK K
   refine d_Y (a':=?_) ?_ ?_
   rotate_left
   ·show Act.put _ (some 54) _ = _
    simp only [Act.put,sa_,sb_,sc_,a_Y,a_0]
    rfl
   refine pt_ 6 (some 57) #[T_,T_,T_,T_,T_,T_,T_,F_,F_] HT_ ?_
   refine one_ (i:=7) (N:=none) #[T_,T_,T_,T_,T_,T_,T_,T_,F_] rfl rfl (c_B HT_.out (by kernel_rfl)) (by decide) (fun K hK => ?_)
   have hs57 : w55.cell? ⟨b_f,0,none⟩ = some (.slice none 0 0):=(a_b b_s.out 0).trans rfl
   have hfs57:=a_c b_s.out 0
   have hns57_0:=c_J.out
   have hns57_1:=b_H.out
   have hms57_0:=c_K.out
   have hms57_1:=c_L.out
   have hs58 : w55.cell? ⟨b_f,1,none⟩ = some (.int .i64 0):=(a_b b_s.out 1).trans rfl
   have hfs58:=a_c b_s.out 1
   have hns58_0:=c_J.out
   have hns58_1:=b_H.out
   have hms58_0:=c_K.out
   have hms58_1:=c_L.out
   refine m_M (w1:=?_) (by rfl) rfl ?_ ?_
   rotate_left
   ·go_simp
    rfl
   refine hK.out _ _ ⟨((cell_far (p:=⟨b_f,_,none⟩) b_H.out _).trans (((cell_far (p:=⟨b_f,_,none⟩) b_H.out _).trans (hHeld.1)))),((cell_far (p:=⟨b_f,_,none⟩) b_H.out _).trans (((cell_far (p:=⟨b_f,_,none⟩) b_H.out _).trans (hHeld.2))))⟩ (fun hHeld => ?_)
   clear hK K
   refine pt_ 8 (some 5) #[T_,T_,T_,T_,T_,T_,T_,T_,T_] HT_ ?_
   refine e_L (c_Z HT_.out (by kernel_rfl)) ?_
   try go_wp2
   refine bodyPost_ret (c_g rfl _ _ b_f 37 #[.slice Ao56 y151.length co56,.int .i64 a1_0] (0,0) _ rfl (by (with_reducible repeat (first|refine a_e ?_ _|refine a_g ?_|refine a_d ?_ _));refine a_n (cs:=#[.slice Ao56 y151.length co56,.int .i64 0]) ?_ 1 _ rfl;(with_reducible repeat (first|refine a_e ?_ _|refine a_g ?_|refine a_d ?_ _));refine a_n (cs:=#[.slice none 0 0,.int .i64 0]) ?_ 0 _ rfl;(with_reducible repeat (first|refine a_e ?_ _|refine a_g ?_|refine a_d ?_ _));exact b_s.out) Tryd.underlying37 rfl (by kernel_rfl)) rfl ?_
   exact ⟨_,by first|rfl|(simp [a_u,a_v] <;> rfl)|(simp only [← hji44];first|rfl|(simp [a_u,a_v] <;> rfl))|(simp [*, a_u,a_v] <;> rfl),by (with_reducible repeat (first|apply Kd.d_g|apply Kd.d_h|apply Kd.d_K));exact Kd.e_I (Kd.h_B (p:=⟨b_f,1,none⟩) (Kd.h_B (p:=⟨b_f,0,none⟩) (Kd.e_I q_9.out (fun k_ hk => (⟨hk,hk.2.2.2⟩ : _ ∧ k_ ≠ b_f))) (fun _ hk => hk.2) (.slice Ao56 y151.length co56)) (fun _ hk => hk.2) (.int .i64 a1_0)) (fun _ hk => hk.1.1),by repeat (first|(with_reducible first|exact HB.out|apply a_j|apply a_h|apply a_k|refine a_i ?_ b_9.out|refine a_i ?_ c_O.out|refine a_i ?_ d_P.out)|exact HB.out)⟩
end Go.Proofs.YtgglkfilkagblaaDoor.Q
end
section
namespace Go.Proofs.YtgglkfilkagblaaDoor.Q
open Go.RowKit Go.Proofs.YtgglkfilkagblaaDoorW.PrintWords Go.Proofs.YtgglkfilkagblaaDoorW.PrintLast Go.Proofs.YtgglkfilkagblaaDoorW.PrintMore
set_option linter.unusedVariables false
set_option linter.unusedSimpArgs false
section
def a_6.f  : Option (Int × (List (S33))):=some (0,(([(⟨1,1,0,0,0,true,false,3,256,2,50⟩ : S33),(⟨2,1,0,0,(-1),true,false,3,256,2,50⟩ : S33)] : List (S33))))
theorem q_1 {W : World} {base g : Nat} (x y : S33) {cs : List Value} (hc : cs = [.int .i64 x.f0,.int .i64 x.f1,.int .i64 x.f2,.int .i64 x.f3,.int .i64 x.f4,.bool x.f5,.bool x.f6,.int .u32 x.f7,.int .i64 x.f8,.int .i64 x.f9,.int .i64 x.f10] ++ [.int .i64 y.f0,.int .i64 y.f1,.int .i64 y.f2,.int .i64 y.f3,.int .i64 y.f4,.bool y.f5,.bool y.f6,.int .u32 y.f7,.int .i64 y.f8,.int .i64 y.f9,.int .i64 y.f10])
 (h : W.heap[g]? = some (.cells cs.toArray 33 (0,0))) (hb : base ≤ g) : Kd.R k33 33 W base (fun _ => True) (.slice (some ⟨g,0,none⟩) 2 2) [x,y]:=by
 subst hc
 refine ⟨fun _ _ => trivial,_,⟨rfl,.inr ⟨g,2,_,rfl,hb,h,Nat.le_refl _,by decide,rfl,rfl⟩⟩,?_⟩
 exact ((Reps.none (k33.M W base (fun _ => True)) 11).snoc (p:=x) (h_t _ _ _ x) rfl).snoc (p:=y) (h_t _ _ _ y) rfl
set_option maxHeartbeats 1000000 in
set_option maxRecDepth 100000 in
theorem a_6.calls (r1 : Int) (r2 : List (S33)) (w : World) (h : a_6.f  = some (r1,r2)) :
 Calls Tryd.prog 15 #[] w fun e w' => ∃ v1_ : Value,e = .returned (.agg #[.int .i64 r1,v1_]) ∧ Kd.R k33 33 w' w.heap.size (fun _ => True) v1_ r2 ∧ Below w.heap.size w w':=by
 cases h
 have hu27_:=Tryd.underlying24
 have hu65_:=Tryd.underlying33
 go_enter Tryd.func15,Tryd.ntmps15
 go_wp2
 refine bodyPost_ret (results_cell_row rfl _ _ w.heap.size 24 #[.int .i64 0,.slice (some ⟨w.heap.size + 1 + 1 + 1,0,none⟩) 2 2] (0,0) _ rfl (a_d (a_d (a_d (c_E w _) _) _) _) Tryd.underlying24 rfl (by kernel_rfl)) rfl ?_
 refine ⟨_,rfl,q_1 _ _ rfl (by
  have:=c_E (((w.alloc (.cells #[.int .i64 0,.slice (some ⟨w.heap.size + 1 + 1 + 1,0,none⟩) 2 2] 24)).alloc (.cells #[.int .i64 1,.int .i64 1,.int .i64 0,.int .i64 0,.int .i64 0,.bool true,.bool false,.int .u32 3,.int .i64 256,.int .i64 2,.int .i64 50] 33)).alloc (.cells #[.int .i64 2,.int .i64 1,.int .i64 0,.int .i64 0,.int .i64 (-1),.bool true,.bool false,.int .u32 3,.int .i64 256,.int .i64 2,.int .i64 50] 33)) (.cells #[.int .i64 1,.int .i64 1,.int .i64 0,.int .i64 0,.int .i64 0,.bool true,.bool false,.int .u32 3,.int .i64 256,.int .i64 2,.int .i64 50,.int .i64 2,.int .i64 1,.int .i64 0,.int .i64 0,.int .i64 (-1),.bool true,.bool false,.int .u32 3,.int .i64 256,.int .i64 2,.int .i64 50] 33)
  simp only [World.size_alloc] at this
  exact this) (by omega),a_j (a_j (a_j (a_j (Below.refl _ _) _) _) _) _⟩
end
end Go.Proofs.YtgglkfilkagblaaDoor.Q
end
section
namespace Go.Proofs.YtgglkfilkagblaaDoor.Q
open Go.RowKit Go.Proofs.YtgglkfilkagblaaDoorW.PrintWords Go.Proofs.YtgglkfilkagblaaDoorW.PrintLast Go.Proofs.YtgglkfilkagblaaDoorW.PrintMore
set_option linter.unusedVariables false
set_option linter.unusedSimpArgs false
def c_f.f (k : Nat) (l0_0 : List (S24)) (a0_1 : Int) (a1 : Int) : Option ((List (S24)) × Int × Int):=(a_x.f k l0_0 a0_1).bind fun t159 => (if t159 = 0 then (if a1 < a0_1 then (some (([] : List (S24)),0,2)) else (if a1 > 1125899906842624 then (some (([] : List (S24)),0,2)) else (some (l0_0,a1,0)))) else (some (([] : List (S24)),0,390)))
theorem c_f.mono : ∀ a0 a1 a2 k,LeO (c_f.f k a0 a1 a2) (c_f.f (k + 1) a0 a1 a2):=by
 intro a0 a1 a2 k
 unfold c_f.f
 repeat' first
  | (with_reducible exact a_x.mono _ _ _)
  | (with_reducible exact LeO.refl _)
  | (with_reducible exact LeO.none _)
  | (with_reducible refine LeO.ite ?_ ?_)
  | (with_reducible refine LeO.bind ?_ (fun _ => ?_))
  | exact a_x.mono _ _ _
  | exact LeO.none _
  | refine LeO.ite ?_ ?_
  | refine LeO.bind ?_ (fun _ => ?_)
set_option maxHeartbeats 8000000 in
set_option maxRecDepth 100000 in
theorem c_f.calls (k : Nat) (P0_0_ : Nat → Prop) (A0_0 : Option Addr) (c0_0 : Nat) (l0_0 : List (S24)) (a0_1 : Int) (a1 : Int) (r1 : List (S24)) (r2 : Int) (r3 : Int) (w : World) (hs0_0 : Kd.V k24 24 w w.heap.size (fun k_ => P0_0_ k_) (.slice A0_0 l0_0.length c0_0) l0_0) (h : c_f.f k l0_0 a0_1 a1 = some (r1,r2,r3)) :
 Calls Tryd.prog 16 #[.agg #[.slice A0_0 l0_0.length c0_0,.int .i64 a0_1],.int .i64 a1] w fun e w' => ∃ v0_ : Value,e = .returned (.tuple #[.agg #[v0_,.int .i64 r2],.int .i64 r3]) ∧ Kd.V k24 24 w' w.heap.size (fun k_ => (P0_0_ k_ ∨ w.heap.size ≤ k_)) v0_ r1 ∧ Below w.heap.size w w':=by
 have hu37:=Tryd.underlying37
 have b_j:=a_f.mk (show Kd.V k24 24 w w.heap.size (fun k_ => (P0_0_ k_ ∨ w.heap.size ≤ k_)) (.slice A0_0 l0_0.length c0_0) l0_0 from Kd.c_X hs0_0 (fun k_ hk => .inl hk))
 have HB:=a_f.mk (Below.refl w.heap.size w)
 have H : ((a_x.f k l0_0 a0_1).bind fun t159 => (if t159 = 0 then (if a1 < a0_1 then (some (([] : List (S24)),0,2)) else (if a1 > 1125899906842624 then (some (([] : List (S24)),0,2)) else (some (l0_0,a1,0)))) else (some (([] : List (S24)),0,390)))) = some (r1,r2,r3):=h
 clear h
 replace H:=Option.bind_eq_some_iff.mp H
 obtain ⟨t159,A30,H⟩:=H
 replace H : (if t159 = 0 then (if a1 < a0_1 then (some (([] : List (S24)),0,2)) else (if a1 > 1125899906842624 then (some (([] : List (S24)),0,2)) else (some (l0_0,a1,0)))) else (some (([] : List (S24)),0,390))) = some (r1,r2,r3):=H
 have A3:=a_f.mk A30
 clear A30
 by_cases c4 : t159 = 0
 rotate_left
 ·rw [if_neg c4] at H
  have c4b0 : (t159 == 0) = false:=beq_eq_false_iff_ne.mpr c4
  have c4b1 : (t159 != 0) = true:=bne_iff_ne.mpr c4
  simp only [Option.some.injEq,Prod.mk.injEq] at H
  obtain ⟨rfl,rfl,rfl⟩:=H
  go_enter Tryd.func16,Tryd.ntmps16
  go_wp2_with (first|((with_reducible refine a_J (N:=2) rfl ?_);refine a_A ?hg (N:=2) ?hd (cs:=#[.slice A0_0 l0_0.length c0_0,.int .i64 a0_1]) (t:=37) ?hr ?_;(case hd => rfl);(case hg => rfl);(case hr => first|(go_simp;done)|(go_simp;rfl));intro c_S hg w28 hbox hb;have b_6:=a_f.mk (hbox);have n_p:=a_f.mk ((by rw [hg];exact (a_o (lup_ HB.out)) : w.heap.size ≤ c_S));have d_7:=a_f.mk ((by rw [hg];exact (a_o (lup_ HB.out)) : w.heap.size ≤ c_S));replace b_j:=a_f.mk (Kd.a_4 (Kd.b_r (by (with_reducible repeat (first|apply Kd.a_T|apply Kd.a_U|apply Kd.a_1));exact b_j.out) c_S (Nat.le_of_eq hg.symm)) hb);replace HB:=a_f.mk (a_q (lup_ HB.out) hb);clear hb hbox hg)|((with_reducible refine a_J (N:=4) rfl ?_);refine a_A ?hg (N:=4) ?hd (cs:=#[.slice none 0 0,.int .i64 0]) (t:=37) ?hr ?_;(case hd => rfl);(case hg => rfl);(case hr => first|(go_simp;done)|(go_simp;rfl));intro c_Y hg w29 hbox hb;have d_d:=a_f.mk (hbox);have n_q:=a_f.mk ((by rw [hg];exact (a_o (by repeat (first|(with_reducible first|exact HB.out|apply a_j|apply a_h|apply a_k|refine a_i ?_ d_7.out)|exact HB.out))) : w.heap.size ≤ c_Y));have f_9:=a_f.mk ((by rw [hg];exact (a_o (by repeat (first|(with_reducible first|exact HB.out|apply a_j|apply a_h|apply a_k|refine a_i ?_ d_7.out)|exact HB.out))) : w.heap.size ≤ c_Y));have e_a:=a_f.mk ((by rw [hg];exact Nat.ne_of_lt (a_B (bup_ b_6.out)) : c_S ≠ c_Y));have d_0:=a_f.mk ((by rw [hg];exact Nat.ne_of_gt (a_B (bup_ b_6.out)) : c_Y ≠ c_S));replace b_j:=a_f.mk (Kd.a_4 (Kd.b_r (by (with_reducible repeat (first|apply Kd.a_T|apply Kd.a_U|apply Kd.a_1));exact b_j.out) c_Y (Nat.le_of_eq hg.symm)) hb);replace b_6:=a_f.mk (a_l (bup_ b_6.out) hb);replace HB:=a_f.mk (a_q (by repeat (first|(with_reducible first|exact HB.out|apply a_j|apply a_h|apply a_k|refine a_i ?_ d_7.out)|exact HB.out)) hb);clear hb hbox hg;have q_S:=e_a.out;have q_T:=d_0.out;have h_d : w29.cell? ⟨c_S,0,none⟩ = some (.slice A0_0 l0_0.length c0_0):=(a_b b_6.out 0).trans rfl;have h_e : w29.cell? ⟨c_S,1,none⟩ = some (.int .i64 a0_1):=(a_b b_6.out 1).trans rfl;have h_l:=a_c b_6.out 0;have h_m:=a_c b_6.out 1)|((with_reducible refine a_M (f:=29) rfl ?_);refine b_D (some 8) rfl rfl Tryd.func29 (by kernel_rfl) rfl #[.agg #[.slice A0_0 l0_0.length c0_0,.int .i64 a0_1]] rfl (by (try simp only [List.map_toArray,List.map_cons,List.map_nil]);first|done|rfl|(simp only [List.length_drop,List.length_take];rfl)) ?_;(with_reducible refine (a_x.calls k _ _ l0_0 a0_1 t159 _ ?side1 ?side2 A3.out).mono ?_);(case side1 => repeat (first|exact (Kd.b_w b_j.out).2.2|(with_reducible refine Kd.b_b ?_ _)|(with_reducible refine Kd.b_c ?_ _)|(with_reducible refine Kd.b_z ?_)));(case side2 => exact (Kd.b_w b_j.out).2.1);rintro e w32 ⟨rfl,hb⟩;refine ⟨_,rfl,?_⟩;replace b_j:=a_f.mk (Kd.a_4 (by (with_reducible repeat (first|apply Kd.a_T|apply Kd.a_U|apply Kd.a_1));exact b_j.out) hb);replace b_6:=a_f.mk (a_l (bup_ b_6.out) hb);replace d_d:=a_f.mk (a_l (bup_ d_d.out) hb);replace HB:=a_f.mk (a_q (by repeat (first|(with_reducible first|exact HB.out|apply a_j|apply a_h|apply a_k|refine a_i ?_ d_7.out|refine a_i ?_ f_9.out)|exact HB.out)) hb);(try clear hb);(try clear hb2);(try clear hk);(try clear hi);have h_f : w32.cell? ⟨c_Y,0,none⟩ = some (.slice none 0 0):=(a_b d_d.out 0).trans rfl;have h_g : w32.cell? ⟨c_Y,1,none⟩ = some (.int .i64 0):=(a_b d_d.out 1).trans rfl;have h_n:=a_c d_d.out 0;have h_o:=a_c d_d.out 1))
  refine bodyPost_ret (c_g rfl _ _ c_Y 37 #[.slice none 0 0,.int .i64 0] (0,0) _ rfl (by (with_reducible repeat (first|refine a_e ?_ _|refine a_g ?_|refine a_d ?_ _));refine a_n (cs:=#[.slice none 0 0,.int .i64 0]) ?_ 1 _ rfl;(with_reducible repeat (first|refine a_e ?_ _|refine a_g ?_|refine a_d ?_ _));refine a_n (cs:=#[.slice none 0 0,.int .i64 0]) ?_ 0 _ rfl;(with_reducible repeat (first|refine a_e ?_ _|refine a_g ?_|refine a_d ?_ _));exact d_d.out) Tryd.underlying37 rfl (by kernel_rfl)) rfl ?_
  exact ⟨_,by first|rfl|(simp [a_u,a_v] <;> rfl)|(simp [*, a_u,a_v] <;> rfl),(Kd.g_F _ _ _ _ _),by repeat (first|(with_reducible first|exact HB.out|apply a_j|apply a_h|apply a_k|refine a_i ?_ d_7.out|refine a_i ?_ f_9.out)|exact HB.out)⟩
 rw [if_pos c4] at H
 have c4b0 : (t159 == 0) = true:=beq_iff_eq.mpr c4
 have c4b1 : (t159 != 0) = false:=bne_eq_false_iff_eq.mpr c4
 clear c4
 by_cases c5 : a1 < a0_1
 ·rw [if_pos c5] at H
  have c5b0 : decide (a1 < a0_1) = true:=decide_eq_true c5
  clear c5
  simp only [Option.some.injEq,Prod.mk.injEq] at H
  obtain ⟨rfl,rfl,rfl⟩:=H
  go_enter Tryd.func16,Tryd.ntmps16
  go_wp2_with (first|((with_reducible refine a_J (N:=2) rfl ?_);refine a_A ?hg (N:=2) ?hd (cs:=#[.slice A0_0 l0_0.length c0_0,.int .i64 a0_1]) (t:=37) ?hr ?_;(case hd => rfl);(case hg => rfl);(case hr => first|(go_simp;done)|(go_simp;rfl));intro c_S hg w6 hbox hb;have b_6:=a_f.mk (hbox);have n_p:=a_f.mk ((by rw [hg];exact (a_o (lup_ HB.out)) : w.heap.size ≤ c_S));have d_7:=a_f.mk ((by rw [hg];exact (a_o (lup_ HB.out)) : w.heap.size ≤ c_S));replace b_j:=a_f.mk (Kd.a_4 (Kd.b_r (by (with_reducible repeat (first|apply Kd.a_T|apply Kd.a_U|apply Kd.a_1));exact b_j.out) c_S (Nat.le_of_eq hg.symm)) hb);replace HB:=a_f.mk (a_q (lup_ HB.out) hb);clear hb hbox hg)|((with_reducible refine a_J (N:=4) rfl ?_);refine a_A ?hg (N:=4) ?hd (cs:=#[.slice none 0 0,.int .i64 0]) (t:=37) ?hr ?_;(case hd => rfl);(case hg => rfl);(case hr => first|(go_simp;done)|(go_simp;rfl));intro c_Y hg w7 hbox hb;have d_d:=a_f.mk (hbox);have n_q:=a_f.mk ((by rw [hg];exact (a_o (by repeat (first|(with_reducible first|exact HB.out|apply a_j|apply a_h|apply a_k|refine a_i ?_ d_7.out)|exact HB.out))) : w.heap.size ≤ c_Y));have f_9:=a_f.mk ((by rw [hg];exact (a_o (by repeat (first|(with_reducible first|exact HB.out|apply a_j|apply a_h|apply a_k|refine a_i ?_ d_7.out)|exact HB.out))) : w.heap.size ≤ c_Y));have e_a:=a_f.mk ((by rw [hg];exact Nat.ne_of_lt (a_B (bup_ b_6.out)) : c_S ≠ c_Y));have d_0:=a_f.mk ((by rw [hg];exact Nat.ne_of_gt (a_B (bup_ b_6.out)) : c_Y ≠ c_S));replace b_j:=a_f.mk (Kd.a_4 (Kd.b_r (by (with_reducible repeat (first|apply Kd.a_T|apply Kd.a_U|apply Kd.a_1));exact b_j.out) c_Y (Nat.le_of_eq hg.symm)) hb);replace b_6:=a_f.mk (a_l (bup_ b_6.out) hb);replace HB:=a_f.mk (a_q (by repeat (first|(with_reducible first|exact HB.out|apply a_j|apply a_h|apply a_k|refine a_i ?_ d_7.out)|exact HB.out)) hb);clear hb hbox hg;have hnb8:=e_a.out;have hnc8:=d_0.out;have r_w : w7.cell? ⟨c_S,0,none⟩ = some (.slice A0_0 l0_0.length c0_0):=(a_b b_6.out 0).trans rfl;have r_x : w7.cell? ⟨c_S,1,none⟩ = some (.int .i64 a0_1):=(a_b b_6.out 1).trans rfl;have r_A:=a_c b_6.out 0;have r_B:=a_c b_6.out 1)|((with_reducible refine a_M (f:=29) rfl ?_);refine b_D (some 8) rfl rfl Tryd.func29 (by kernel_rfl) rfl #[.agg #[.slice A0_0 l0_0.length c0_0,.int .i64 a0_1]] rfl (by (try simp only [List.map_toArray,List.map_cons,List.map_nil]);first|done|rfl|(simp only [List.length_drop,List.length_take];rfl)) ?_;(with_reducible refine (a_x.calls k _ _ l0_0 a0_1 t159 _ ?side1 ?side2 A3.out).mono ?_);(case side1 => repeat (first|exact (Kd.b_w b_j.out).2.2|(with_reducible refine Kd.b_b ?_ _)|(with_reducible refine Kd.b_c ?_ _)|(with_reducible refine Kd.b_z ?_)));(case side2 => exact (Kd.b_w b_j.out).2.1);rintro e w10 ⟨rfl,hb⟩;refine ⟨_,rfl,?_⟩;replace b_j:=a_f.mk (Kd.a_4 (by (with_reducible repeat (first|apply Kd.a_T|apply Kd.a_U|apply Kd.a_1));exact b_j.out) hb);replace b_6:=a_f.mk (a_l (bup_ b_6.out) hb);replace d_d:=a_f.mk (a_l (bup_ d_d.out) hb);replace HB:=a_f.mk (a_q (by repeat (first|(with_reducible first|exact HB.out|apply a_j|apply a_h|apply a_k|refine a_i ?_ d_7.out|refine a_i ?_ f_9.out)|exact HB.out)) hb);(try clear hb);(try clear hb2);(try clear hk);(try clear hi);have k_D : w10.cell? ⟨c_S,0,none⟩ = some (.slice A0_0 l0_0.length c0_0):=(a_b b_6.out 0).trans rfl;have k_E : w10.cell? ⟨c_S,1,none⟩ = some (.int .i64 a0_1):=(a_b b_6.out 1).trans rfl;have l_d:=a_c b_6.out 0;have l_e:=a_c b_6.out 1;have i_k : w10.cell? ⟨c_Y,0,none⟩ = some (.slice none 0 0):=(a_b d_d.out 0).trans rfl;have i_l : w10.cell? ⟨c_Y,1,none⟩ = some (.int .i64 0):=(a_b d_d.out 1).trans rfl;have i_J:=a_c d_d.out 0;have i_K:=a_c d_d.out 1))
  refine bodyPost_ret (c_g rfl _ _ c_Y 37 #[.slice none 0 0,.int .i64 0] (0,0) _ rfl (by (with_reducible repeat (first|refine a_e ?_ _|refine a_g ?_|refine a_d ?_ _));refine a_n (cs:=#[.slice none 0 0,.int .i64 0]) ?_ 1 _ rfl;(with_reducible repeat (first|refine a_e ?_ _|refine a_g ?_|refine a_d ?_ _));refine a_n (cs:=#[.slice none 0 0,.int .i64 0]) ?_ 0 _ rfl;(with_reducible repeat (first|refine a_e ?_ _|refine a_g ?_|refine a_d ?_ _));exact d_d.out) Tryd.underlying37 rfl (by kernel_rfl)) rfl ?_
  exact ⟨_,by first|rfl|(simp [a_u,a_v] <;> rfl)|(simp [*, a_u,a_v] <;> rfl),(Kd.g_F _ _ _ _ _),by repeat (first|(with_reducible first|exact HB.out|apply a_j|apply a_h|apply a_k|refine a_i ?_ d_7.out|refine a_i ?_ f_9.out)|exact HB.out)⟩
 rw [if_neg c5] at H
 have c5b0 : decide (a1 < a0_1) = false:=decide_eq_false c5
 clear c5
 by_cases c13 : a1 > 1125899906842624
 ·rw [if_pos c13] at H
  have c13b0 : decide (1125899906842624 < a1) = true:=decide_eq_true c13
  clear c13
  simp only [Option.some.injEq,Prod.mk.injEq] at H
  obtain ⟨rfl,rfl,rfl⟩:=H
  go_enter Tryd.func16,Tryd.ntmps16
  go_wp2_with (first|((with_reducible refine a_J (N:=2) rfl ?_);refine a_A ?hg (N:=2) ?hd (cs:=#[.slice A0_0 l0_0.length c0_0,.int .i64 a0_1]) (t:=37) ?hr ?_;(case hd => rfl);(case hg => rfl);(case hr => first|(go_simp;done)|(go_simp;rfl));intro c_S hg w14 hbox hb;have b_6:=a_f.mk (hbox);have n_p:=a_f.mk ((by rw [hg];exact (a_o (lup_ HB.out)) : w.heap.size ≤ c_S));have d_7:=a_f.mk ((by rw [hg];exact (a_o (lup_ HB.out)) : w.heap.size ≤ c_S));replace b_j:=a_f.mk (Kd.a_4 (Kd.b_r (by (with_reducible repeat (first|apply Kd.a_T|apply Kd.a_U|apply Kd.a_1));exact b_j.out) c_S (Nat.le_of_eq hg.symm)) hb);replace HB:=a_f.mk (a_q (lup_ HB.out) hb);clear hb hbox hg)|((with_reducible refine a_J (N:=4) rfl ?_);refine a_A ?hg (N:=4) ?hd (cs:=#[.slice none 0 0,.int .i64 0]) (t:=37) ?hr ?_;(case hd => rfl);(case hg => rfl);(case hr => first|(go_simp;done)|(go_simp;rfl));intro c_Y hg w15 hbox hb;have d_d:=a_f.mk (hbox);have n_q:=a_f.mk ((by rw [hg];exact (a_o (by repeat (first|(with_reducible first|exact HB.out|apply a_j|apply a_h|apply a_k|refine a_i ?_ d_7.out)|exact HB.out))) : w.heap.size ≤ c_Y));have f_9:=a_f.mk ((by rw [hg];exact (a_o (by repeat (first|(with_reducible first|exact HB.out|apply a_j|apply a_h|apply a_k|refine a_i ?_ d_7.out)|exact HB.out))) : w.heap.size ≤ c_Y));have e_a:=a_f.mk ((by rw [hg];exact Nat.ne_of_lt (a_B (bup_ b_6.out)) : c_S ≠ c_Y));have d_0:=a_f.mk ((by rw [hg];exact Nat.ne_of_gt (a_B (bup_ b_6.out)) : c_Y ≠ c_S));replace b_j:=a_f.mk (Kd.a_4 (Kd.b_r (by (with_reducible repeat (first|apply Kd.a_T|apply Kd.a_U|apply Kd.a_1));exact b_j.out) c_Y (Nat.le_of_eq hg.symm)) hb);replace b_6:=a_f.mk (a_l (bup_ b_6.out) hb);replace HB:=a_f.mk (a_q (by repeat (first|(with_reducible first|exact HB.out|apply a_j|apply a_h|apply a_k|refine a_i ?_ d_7.out)|exact HB.out)) hb);clear hb hbox hg;have y_7:=e_a.out;have z_D:=d_0.out;have t_a : w15.cell? ⟨c_S,0,none⟩ = some (.slice A0_0 l0_0.length c0_0):=(a_b b_6.out 0).trans rfl;have t_b : w15.cell? ⟨c_S,1,none⟩ = some (.int .i64 a0_1):=(a_b b_6.out 1).trans rfl;have v_G:=a_c b_6.out 0;have v_H:=a_c b_6.out 1)|((with_reducible refine a_M (f:=29) rfl ?_);refine b_D (some 8) rfl rfl Tryd.func29 (by kernel_rfl) rfl #[.agg #[.slice A0_0 l0_0.length c0_0,.int .i64 a0_1]] rfl (by (try simp only [List.map_toArray,List.map_cons,List.map_nil]);first|done|rfl|(simp only [List.length_drop,List.length_take];rfl)) ?_;(with_reducible refine (a_x.calls k _ _ l0_0 a0_1 t159 _ ?side1 ?side2 A3.out).mono ?_);(case side1 => repeat (first|exact (Kd.b_w b_j.out).2.2|(with_reducible refine Kd.b_b ?_ _)|(with_reducible refine Kd.b_c ?_ _)|(with_reducible refine Kd.b_z ?_)));(case side2 => exact (Kd.b_w b_j.out).2.1);rintro e w18 ⟨rfl,hb⟩;refine ⟨_,rfl,?_⟩;replace b_j:=a_f.mk (Kd.a_4 (by (with_reducible repeat (first|apply Kd.a_T|apply Kd.a_U|apply Kd.a_1));exact b_j.out) hb);replace b_6:=a_f.mk (a_l (bup_ b_6.out) hb);replace d_d:=a_f.mk (a_l (bup_ d_d.out) hb);replace HB:=a_f.mk (a_q (by repeat (first|(with_reducible first|exact HB.out|apply a_j|apply a_h|apply a_k|refine a_i ?_ d_7.out|refine a_i ?_ f_9.out)|exact HB.out)) hb);(try clear hb);(try clear hb2);(try clear hk);(try clear hi);have f_O : w18.cell? ⟨c_S,0,none⟩ = some (.slice A0_0 l0_0.length c0_0):=(a_b b_6.out 0).trans rfl;have f_P : w18.cell? ⟨c_S,1,none⟩ = some (.int .i64 a0_1):=(a_b b_6.out 1).trans rfl;have f_Q:=a_c b_6.out 0;have f_R:=a_c b_6.out 1;have g_8 : w18.cell? ⟨c_Y,0,none⟩ = some (.slice none 0 0):=(a_b d_d.out 0).trans rfl;have i_o : w18.cell? ⟨c_Y,1,none⟩ = some (.int .i64 0):=(a_b d_d.out 1).trans rfl;have h_h:=a_c d_d.out 0;have i_N:=a_c d_d.out 1))
  refine bodyPost_ret (c_g rfl _ _ c_Y 37 #[.slice none 0 0,.int .i64 0] (0,0) _ rfl (by (with_reducible repeat (first|refine a_e ?_ _|refine a_g ?_|refine a_d ?_ _));refine a_n (cs:=#[.slice none 0 0,.int .i64 0]) ?_ 1 _ rfl;(with_reducible repeat (first|refine a_e ?_ _|refine a_g ?_|refine a_d ?_ _));refine a_n (cs:=#[.slice none 0 0,.int .i64 0]) ?_ 0 _ rfl;(with_reducible repeat (first|refine a_e ?_ _|refine a_g ?_|refine a_d ?_ _));exact d_d.out) Tryd.underlying37 rfl (by kernel_rfl)) rfl ?_
  exact ⟨_,by first|rfl|(simp [a_u,a_v] <;> rfl)|(simp [*, a_u,a_v] <;> rfl),(Kd.g_F _ _ _ _ _),by repeat (first|(with_reducible first|exact HB.out|apply a_j|apply a_h|apply a_k|refine a_i ?_ d_7.out|refine a_i ?_ f_9.out)|exact HB.out)⟩
 rw [if_neg c13] at H
 have c13b0 : decide (1125899906842624 < a1) = false:=decide_eq_false c13
 clear c13
 simp only [Option.some.injEq,Prod.mk.injEq] at H
 obtain ⟨rfl,rfl,rfl⟩:=H
 go_enter Tryd.func16,Tryd.ntmps16
 go_wp2_with (first|((with_reducible refine a_J (N:=2) rfl ?_);refine a_A ?hg (N:=2) ?hd (cs:=#[.slice A0_0 l0_0.length c0_0,.int .i64 a0_1]) (t:=37) ?hr ?_;(case hd => rfl);(case hg => rfl);(case hr => first|(go_simp;done)|(go_simp;rfl));intro c_S hg w21 hbox hb;have b_6:=a_f.mk (hbox);have n_p:=a_f.mk ((by rw [hg];exact (a_o (lup_ HB.out)) : w.heap.size ≤ c_S));have d_7:=a_f.mk ((by rw [hg];exact (a_o (lup_ HB.out)) : w.heap.size ≤ c_S));replace b_j:=a_f.mk (Kd.a_4 (Kd.b_r (by (with_reducible repeat (first|apply Kd.a_T|apply Kd.a_U|apply Kd.a_1));exact b_j.out) c_S (Nat.le_of_eq hg.symm)) hb);replace HB:=a_f.mk (a_q (lup_ HB.out) hb);clear hb hbox hg)|((with_reducible refine a_J (N:=4) rfl ?_);refine a_A ?hg (N:=4) ?hd (cs:=#[.slice none 0 0,.int .i64 0]) (t:=37) ?hr ?_;(case hd => rfl);(case hg => rfl);(case hr => first|(go_simp;done)|(go_simp;rfl));intro c_Y hg w22 hbox hb;have d_d:=a_f.mk (hbox);have n_q:=a_f.mk ((by rw [hg];exact (a_o (by repeat (first|(with_reducible first|exact HB.out|apply a_j|apply a_h|apply a_k|refine a_i ?_ d_7.out)|exact HB.out))) : w.heap.size ≤ c_Y));have f_9:=a_f.mk ((by rw [hg];exact (a_o (by repeat (first|(with_reducible first|exact HB.out|apply a_j|apply a_h|apply a_k|refine a_i ?_ d_7.out)|exact HB.out))) : w.heap.size ≤ c_Y));have e_a:=a_f.mk ((by rw [hg];exact Nat.ne_of_lt (a_B (bup_ b_6.out)) : c_S ≠ c_Y));have d_0:=a_f.mk ((by rw [hg];exact Nat.ne_of_gt (a_B (bup_ b_6.out)) : c_Y ≠ c_S));replace b_j:=a_f.mk (Kd.a_4 (Kd.b_r (by (with_reducible repeat (first|apply Kd.a_T|apply Kd.a_U|apply Kd.a_1));exact b_j.out) c_Y (Nat.le_of_eq hg.symm)) hb);replace b_6:=a_f.mk (a_l (bup_ b_6.out) hb);replace HB:=a_f.mk (a_q (by repeat (first|(with_reducible first|exact HB.out|apply a_j|apply a_h|apply a_k|refine a_i ?_ d_7.out)|exact HB.out)) hb);clear hb hbox hg;have z_a:=e_a.out;have z_G:=d_0.out;have t_B : w22.cell? ⟨c_S,0,none⟩ = some (.slice A0_0 l0_0.length c0_0):=(a_b b_6.out 0).trans rfl;have t_C : w22.cell? ⟨c_S,1,none⟩ = some (.int .i64 a0_1):=(a_b b_6.out 1).trans rfl;have v_7:=a_c b_6.out 0;have v_8:=a_c b_6.out 1)|((with_reducible refine a_M (f:=29) rfl ?_);refine b_D (some 8) rfl rfl Tryd.func29 (by kernel_rfl) rfl #[.agg #[.slice A0_0 l0_0.length c0_0,.int .i64 a0_1]] rfl (by (try simp only [List.map_toArray,List.map_cons,List.map_nil]);first|done|rfl|(simp only [List.length_drop,List.length_take];rfl)) ?_;(with_reducible refine (a_x.calls k _ _ l0_0 a0_1 t159 _ ?side1 ?side2 A3.out).mono ?_);(case side1 => repeat (first|exact (Kd.b_w b_j.out).2.2|(with_reducible refine Kd.b_b ?_ _)|(with_reducible refine Kd.b_c ?_ _)|(with_reducible refine Kd.b_z ?_)));(case side2 => exact (Kd.b_w b_j.out).2.1);rintro e w25 ⟨rfl,hb⟩;refine ⟨_,rfl,?_⟩;replace b_j:=a_f.mk (Kd.a_4 (by (with_reducible repeat (first|apply Kd.a_T|apply Kd.a_U|apply Kd.a_1));exact b_j.out) hb);replace b_6:=a_f.mk (a_l (bup_ b_6.out) hb);replace d_d:=a_f.mk (a_l (bup_ d_d.out) hb);replace HB:=a_f.mk (a_q (by repeat (first|(with_reducible first|exact HB.out|apply a_j|apply a_h|apply a_k|refine a_i ?_ d_7.out|refine a_i ?_ f_9.out)|exact HB.out)) hb);(try clear hb);(try clear hb2);(try clear hk);(try clear hi);have i_B : w25.cell? ⟨c_S,0,none⟩ = some (.slice A0_0 l0_0.length c0_0):=(a_b b_6.out 0).trans rfl;have i_C : w25.cell? ⟨c_S,1,none⟩ = some (.int .i64 a0_1):=(a_b b_6.out 1).trans rfl;have i_0:=a_c b_6.out 0;have i_1:=a_c b_6.out 1;have k_7 : w25.cell? ⟨c_Y,0,none⟩ = some (.slice none 0 0):=(a_b d_d.out 0).trans rfl;have n_Y : w25.cell? ⟨c_Y,1,none⟩ = some (.int .i64 0):=(a_b d_d.out 1).trans rfl;have l_H:=a_c d_d.out 0;have p_y:=a_c d_d.out 1))
 refine bodyPost_ret (c_g rfl _ _ c_Y 37 #[.slice A0_0 l0_0.length c0_0,.int .i64 a1] (0,0) _ rfl (by (with_reducible repeat (first|refine a_e ?_ _|refine a_g ?_|refine a_d ?_ _));refine a_n (cs:=#[.slice A0_0 l0_0.length c0_0,.int .i64 0]) ?_ 1 _ rfl;(with_reducible repeat (first|refine a_e ?_ _|refine a_g ?_|refine a_d ?_ _));refine a_n (cs:=#[.slice none 0 0,.int .i64 0]) ?_ 0 _ rfl;(with_reducible repeat (first|refine a_e ?_ _|refine a_g ?_|refine a_d ?_ _));refine a_p ?_ d_0.out _;(with_reducible repeat (first|refine a_e ?_ _|refine a_g ?_|refine a_d ?_ _));exact d_d.out) Tryd.underlying37 rfl (by kernel_rfl)) rfl ?_
 exact ⟨_,by first|rfl|(simp [a_u,a_v] <;> rfl)|(simp [*, a_u,a_v] <;> rfl),by (with_reducible repeat (first|apply Kd.a_T|apply Kd.a_U|apply Kd.a_1));exact Kd.c_X (Kd.i_a (p:=⟨c_Y,1,none⟩) (Kd.i_a (p:=⟨c_Y,0,none⟩) (Kd.i_a (p:=⟨c_S,1,none⟩) (Kd.c_X (Kd.c_X b_j.out (fun k_ hk => (⟨hk,hk.1.2⟩ : _ ∧ k_ ≠ c_S))) (fun k_ hk => (⟨hk,hk.1.2⟩ : _ ∧ k_ ≠ c_Y))) (fun _ hk => hk.1.2) (.int .i64 a1)) (fun _ hk => hk.2) (.slice A0_0 l0_0.length c0_0)) (fun _ hk => hk.2) (.int .i64 a1)) (fun _ hk => hk.1.1.1.1),by repeat (first|(with_reducible first|exact HB.out|apply a_j|apply a_h|apply a_k|refine a_i ?_ d_7.out|refine a_i ?_ f_9.out)|exact HB.out)⟩
end Go.Proofs.YtgglkfilkagblaaDoor.Q
end
section
namespace Go.Proofs.YtgglkfilkagblaaDoor.Q
open Go.RowKit Go.Proofs.YtgglkfilkagblaaDoorW.PrintWords Go.Proofs.YtgglkfilkagblaaDoorW.PrintLast Go.Proofs.YtgglkfilkagblaaDoorW.PrintMore
set_option linter.unusedVariables false
set_option linter.unusedSimpArgs false
def e_k.f (l0_0 : List (S24)) (a0_1 : Int) (a1 : Int) : Option (Int):=if (wrap64 (a1 + 1)) < (l0_0.length : Int) then (if 0 ≤ (wrap64 (a1 + 1)) then (some ((a_r l0_0 (wrap64 (a1 + 1))).f0)) else (none)) else (some a0_1)
set_option maxHeartbeats 8000000 in
set_option maxRecDepth 100000 in
theorem e_k.calls (A0_0 : Option Addr) (c0_0 : Nat) (l0_0 : List (S24)) (a0_1 : Int) (a1 : Int) (r : Int) (w : World) (hr0_0 : Kd.C k24 w A0_0 l0_0.length l0_0) (hc0_0 : l0_0.length ≤ c0_0) (h : e_k.f l0_0 a0_1 a1 = some r) :
 Calls Tryd.prog 42 #[.agg #[.slice A0_0 l0_0.length c0_0,.int .i64 a0_1],.int .i64 a1] w fun e w' => e = .returned (.int .i64 r) ∧ Below w.heap.size w w':=by
 have hu37:=Tryd.underlying37
 have g_Z:=a_f.mk hr0_0
 have s_I:=a_f.mk hc0_0
 clear hr0_0 hc0_0
 have HB:=a_f.mk (Below.refl w.heap.size w)
 have H : (if (wrap64 (a1 + 1)) < (l0_0.length : Int) then (if 0 ≤ (wrap64 (a1 + 1)) then (some ((a_r l0_0 (wrap64 (a1 + 1))).f0)) else (none)) else (some a0_1)) = some r:=h
 clear h
 by_cases c3 : (wrap64 (a1 + 1)) < (l0_0.length : Int)
 rotate_left
 ·rw [if_neg c3] at H
  have c3b0 : decide ((wrap64 (a1 + 1)) < (l0_0.length : Int)) = false:=decide_eq_false c3
  clear c3
  obtain rfl:=Option.some.inj H
  go_enter Tryd.func42,Tryd.ntmps42
  go_wp2_with (first|((with_reducible refine a_J (N:=2) rfl ?_);refine a_A ?hg (N:=2) ?hd (cs:=#[.slice A0_0 l0_0.length c0_0,.int .i64 a0_1]) (t:=37) ?hr ?_;(case hd => rfl);(case hg => rfl);(case hr => first|(go_simp;done)|(go_simp;rfl));intro g_7 hg w8 hbox hb;have g_V:=a_f.mk (hbox);have s_H:=a_f.mk ((by rw [hg];exact (a_o (lup_ HB.out)) : w.heap.size ≤ g_7));have n_l:=a_f.mk ((by rw [hg];exact (a_o (lup_ HB.out)) : w.heap.size ≤ g_7));replace HB:=a_f.mk (a_q (lup_ HB.out) hb);clear hb hbox hg;have r_w : w8.cell? ⟨g_7,0,none⟩ = some (.slice A0_0 l0_0.length c0_0):=(a_b g_V.out 0).trans rfl;have r_x : w8.cell? ⟨g_7,1,none⟩ = some (.int .i64 a0_1):=(a_b g_V.out 1).trans rfl;have r_A:=a_c g_V.out 0;have r_B:=a_c g_V.out 1))
  go_ret
  exact ⟨by first|rfl|(simp [a_u,a_v] <;> rfl)|(simp [*, a_u,a_v] <;> rfl),by repeat (first|(with_reducible first|exact HB.out|apply a_j|apply a_h|apply a_k|refine a_i ?_ n_l.out)|exact HB.out)⟩
 rw [if_pos c3] at H
 have c3b0 : decide ((wrap64 (a1 + 1)) < (l0_0.length : Int)) = true:=decide_eq_true c3
 clear c3
 obtain ⟨ji4,hji4⟩ : ∃ j_ : Int,(wrap64 (a1 + 1)) = j_:=⟨_,rfl⟩
 replace H : (if 0 ≤ (ji4) then (some ((a_r l0_0 (ji4)).f0)) else (none)) = some r:=by first|(rw [hji4] at H;exact H)|(simp only [hji4] at H ⊢; exact H)
 (try rw [hji4] at c3b0)
 have hji4w : (IntKind.i64.wrap (a1 + 1)) = ji4:=(a_Y _).trans hji4
 by_cases c5 : 0 ≤ (ji4)
 rotate_left
 ·rw [if_neg c5] at H
  exact absurd H (by simp)
 rw [if_pos c5] at H
 have c5b0 : decide (0 ≤ (ji4)) = true:=decide_eq_true c5
 clear c5
 obtain rfl:=Option.some.inj H
 go_enter Tryd.func42,Tryd.ntmps42
 go_wp2_with (first|((with_reducible refine a_J (N:=2) rfl ?_);refine a_A ?hg (N:=2) ?hd (cs:=#[.slice A0_0 l0_0.length c0_0,.int .i64 a0_1]) (t:=37) ?hr ?_;(case hd => rfl);(case hg => rfl);(case hr => first|(go_simp;done)|(go_simp;rfl));intro g_7 hg w6 hbox hb;have g_V:=a_f.mk (hbox);have s_H:=a_f.mk ((by rw [hg];exact (a_o (lup_ HB.out)) : w.heap.size ≤ g_7));have n_l:=a_f.mk ((by rw [hg];exact (a_o (lup_ HB.out)) : w.heap.size ≤ g_7));replace HB:=a_f.mk (a_q (lup_ HB.out) hb);clear hb hbox hg;have f_z : w6.cell? ⟨g_7,0,none⟩ = some (.slice A0_0 l0_0.length c0_0):=(a_b g_V.out 0).trans rfl;have f_A : w6.cell? ⟨g_7,1,none⟩ = some (.int .i64 a0_1):=(a_b g_V.out 1).trans rfl;have f_D:=a_c g_V.out 0;have f_E:=a_c g_V.out 1;have p272 : 0 ≤ ((ji4) : Int):=of_decide_eq_true (by first|(with_reducible assumption)|assumption);have q272 : (ji4) < (l0_0.length : Int):=of_decide_eq_true (by first|(with_reducible assumption)|assumption);obtain ⟨ad272,A272_1,c272_1,e272,j_t,j_u,l_P,l_N⟩:=e_P g_Z.out (ji4) p272 q272;cases e272;replace j_t:=(HB.out.cell (World.block_lt_of_cell? w _ j_t)).trans j_t;replace j_u:=(HB.out.cell (World.block_lt_of_cell? w _ j_u)).trans j_u;have s_N:=a_f.mk l_N;have s_K:=a_f.mk l_P;clear l_N l_P;replace p272:=eq_true p272;replace q272:=eq_true q272))
 go_ret
 exact ⟨by first|rfl|(simp [a_u,a_v] <;> rfl)|(simp only [← hji4];first|rfl|(simp [a_u,a_v] <;> rfl))|(simp [*, a_u,a_v] <;> rfl),by repeat (first|(with_reducible first|exact HB.out|apply a_j|apply a_h|apply a_k|refine a_i ?_ n_l.out)|exact HB.out)⟩
end Go.Proofs.YtgglkfilkagblaaDoor.Q
end
section
namespace Go.Proofs.YtgglkfilkagblaaDoor.Q
open Go.RowKit Go.Proofs.YtgglkfilkagblaaDoorW.PrintWords Go.Proofs.YtgglkfilkagblaaDoorW.PrintLast Go.Proofs.YtgglkfilkagblaaDoorW.PrintMore
set_option linter.unusedVariables false
set_option linter.unusedSimpArgs false
section
attribute [local go_sem] Oper.semAt_some
def c_e (xs : List S24) (en : Int) (j : Nat) : Int:=if j + 1 < xs.length then (a_r xs ((j + 1 : Nat) : Int)).f0 else en
theorem m_O (xs : List S24) (en : Int) (j : Nat) (hj : j < xs.length) (hl : xs.length ≤ 4398046511104) : e_k.f xs en (j : Int) = some (c_e xs en j):=by
 have h1 : wrap64 ((j : Int) + 1) = ((j + 1 : Nat) : Int):=by unfold wrap64;omega
 unfold e_k.f c_e
 rw [h1]
 by_cases h : j + 1 < xs.length
 ·rw [if_pos (show ((j + 1 : Nat) : Int) < (xs.length : Int) by omega),if_pos h,if_pos (by omega)]
 rw [if_neg (show ¬ ((j + 1 : Nat) : Int) < (xs.length : Int) by omega),if_neg h]
theorem s_R {W w1 : World} (hb : Below W.heap.size W w1) : (∀ b o,b < W.heap.size → w1.cell? ⟨b,o,none⟩ = W.cell? ⟨b,o,none⟩) ∧ (∀ b o,b < W.heap.size → w1.frozen? ⟨b,o,none⟩ = W.frozen? ⟨b,o,none⟩) :=
 ⟨fun b o h => hb.cell (p:=⟨b,o,none⟩) h,fun b o h => hb.frozen (p:=⟨b,o,none⟩) h⟩
theorem l_1 {P : Program} {m l : Nat} {fn : FuncId} {tmps : Array Value} {assign body : Code} {W : World} {A B : World → Prop} (h : RoundIn Fence.wide m P l fn tmps assign body W fun e W' => (e = .returned (.bool true) ∧ A W') ∨ (e = .returned (.bool false) ∧ B W')) :
 RoundIn Fence.wide m P l fn tmps assign body W fun e W' => ∃ b : Bool,e = .returned (.bool b) ∧ a_f ((b = true → A W') ∧ (b = false → B W')) :=
 h.mono fun e W' h => by
  rcases h with ⟨rfl,h⟩ | ⟨rfl,h⟩
  ·exact ⟨true,rfl,⟨⟨fun _ => h,(fun h => by cases h)⟩⟩⟩
  ·exact ⟨false,rfl,⟨⟨(fun h => by cases h),fun _ => h⟩⟩⟩
theorem AbidesFrom.below {β : Type} {B : Nat} {J : β → World → Prop} (h : AbidesFrom B J) {s : β} {A C : World} (hs : J s A) (hb : Below A.heap.size A C) : J s C :=
 h s A C none hs ⟨hb.os,hb.tape,hb.output,hb.size,fun k hk _ => hb.block k hk⟩ (fun r e => by cases e)
def KpB (n₀ g : Nat) (A C : World) : Prop:=Below n₀ A C ∧ C.heap[g]? = A.heap[g]?
def momV (xs : List S24) (am : Nat → Option Addr) (cm : Nat → Nat) (j : Nat) : Value:=.agg #[.int .i64 (a_r xs (j : Int)).f0,.slice (am j) (a_r xs (j : Int)).f1.length (cm j)]
def f_X (xs : List S24) (ad : Addr) (am : Nat → Option Addr) (cm : Nat → Nat) (W : World) : Prop := ∀ j,j < xs.length → W.cell? (ad.add (j * 2)) = some (.int .i64 (a_r xs (j : Int)).f0) ∧ W.cell? ⟨(ad.add (j * 2)).block,(ad.add (j * 2)).off + 1,none⟩ = some (.slice (am j) (a_r xs (j : Int)).f1.length (cm j)) ∧ (a_r xs (j : Int)).f1.length ≤ cm j ∧ Kd.C k33 W (am j) (a_r xs (j : Int)).f1.length (a_r xs (j : Int)).f1
theorem h_M {A : Option Addr} {xs : List S24} {w : World} (h : Kd.C k24 w A xs.length xs) (hp : 0 < xs.length) : ∃ ad am cm,A = some ad ∧ f_X xs ad am cm w:=by
 obtain ⟨ad,A1,c1,e,_⟩:=e_P h 0 (Int.le_refl _) (by omega)
 have key : ∀ j, ∃ p : Option Addr × Nat,j < xs.length → w.cell? (ad.add (j * 2)) = some (.int .i64 (a_r xs (j : Int)).f0) ∧ w.cell? ⟨(ad.add (j * 2)).block,(ad.add (j * 2)).off + 1,none⟩ = some (.slice p.1 (a_r xs (j : Int)).f1.length p.2) ∧ (a_r xs (j : Int)).f1.length ≤ p.2 ∧ Kd.C k33 w p.1 (a_r xs (j : Int)).f1.length (a_r xs (j : Int)).f1:=fun j => by
  by_cases hj : j < xs.length
  ·obtain ⟨ad',A1,c1,e',h0,h1,h2,h3⟩:=e_P h (j : Int) (by omega) (by omega)
   obtain rfl : ad = ad':=by rw [e] at e';injection e'
   exact ⟨(A1,c1),fun _ => ⟨h0,h1,h2,h3⟩⟩
  exact ⟨(none,0),fun h => absurd h hj⟩
 exact ⟨ad,fun j => (key j).choose.1,fun j => (key j).choose.2,e,fun j hj => (key j).choose_spec hj⟩
theorem f_X.below {xs : List S24} {ad : Addr} {am : Nat → Option Addr} {cm : Nat → Nat} {n₀ : Nat} {w W : World} (hw : f_X xs ad am cm w) (hn : n₀ = w.heap.size) (hb : Below n₀ w W) : f_X xs ad am cm W:=fun j hj => by
 obtain ⟨h0,h1,h2,h3⟩:=hw j hj
 subst hn
 exact ⟨(hb.cell (World.block_lt_of_cell? w _ h0)).trans h0,(hb.cell (World.block_lt_of_cell? w _ h1)).trans h1,h2,Kd.b_i h3 hb⟩
set_option maxHeartbeats 1000000 in
theorem h_D.calls (A : Option Addr) (n c : Nat) (en : Int) (w : World) :
 Calls Tryd.prog 31 #[.agg #[.slice A n c,.int .i64 en]] w fun e w' => e = .returned (.func (.func 41) #[] #[.pointer (some ⟨w.heap.size,0,none⟩)]) ∧ w' = w.alloc (.cells #[.slice A n c,.int .i64 en] 37):=by
 go_enter Tryd.func31,Tryd.ntmps31
 go_wp2
 go_ret
 exact ⟨rfl,rfl⟩
set_option maxRecDepth 100000 in
set_option maxHeartbeats 4000000 in
theorem f_v (n : Nat) (hn : 2 ≤ n) (l g n₀ : Nat) (A : Option Addr) (ad : Addr) (c : Nat) (xs : List S24) (en : Int) (hl : xs.length ≤ 4398046511104) (am : Nat → Option Addr) (cm : Nat → Nat) (J Jx : List (Fin xs.length) → World → Prop)
 (hY : ∀ pre (x : Fin xs.length) W,J pre W → pre.length < xs.length → YieldAt Fence.wide (n - 1) Tryd.prog l #[momV xs am cm x.val,.agg #[.int .i64 (a_r xs (x.val : Int)).f0,.int .i64 (c_e xs en x.val)]] W fun e W' =>
  (e = .returned (.bool true) ∧ J (pre ++ [x]) W' ∧ KpB n₀ g W W') ∨ (e = .returned (.bool false) ∧ Jx (pre ++ [x]) W'))
 (w W : World) (hJ : AbidesFrom W.heap.size J) (hn₀ : n₀ = w.heap.size) (hW : Below n₀ w W) (hA : 0 < xs.length → A = some ad) (hg : W.heap[g]? = some (.cells #[.slice A xs.length c,.int .i64 en] 37 (0,0))) (hM : f_X xs ad am cm w) (hc : xs.length ≤ c) (hC : Kd.C k24 w A xs.length xs) (h0 : J [] W) :
 CallsIn Fence.wide n Tryd.prog 41 #[.func (.yield l) #[] #[],.pointer (some ⟨g,0,none⟩)] W fun e W' => (∃ v,e = .returned v) ∧
  ((∃ ys,ys = List.finRange xs.length ∧ J ys W') ∨ (∃ pre,True ∧ Jx pre W')):=by
 subst hn₀
 have hd : 1 ≤ n - 1:=by omega
 have hmx : Tryd.prog.follows .mixedOrders = true:=by kernel_rfl
 refine callsIn_of_wp Tryd.func41 rfl trivial ?_ rfl
 simp only [Tryd.ntmps41,List.size_toArray,List.length_cons,List.length_nil,Nat.reduceAdd,Nat.reduceSub,Array.replicate_succ,Array.replicate_zero,List.push_toArray,List.append_toArray,List.nil_append,List.cons_append]
 have hg0 : W.cell? ⟨g,0,none⟩ = some (.slice A xs.length c):=(a_b hg 0).trans rfl
 have HY:=a_f.mk hY
 have HJ:=a_f.mk hJ
 have HM:=a_f.mk hM
 have HC:=a_f.mk hC
 have HG:=a_f.mk hg
 have HW:=a_f.mk hW
 have H0:=a_f.mk h0
 have HA:=a_f.mk hA
 clear hY hJ hM hC hg hW h0 hA
 gi_wp2
 gi_loopw [8] (fun i wr => ∃ k : Nat,k ≤ xs.length ∧ i = .int .i64 k ∧ a_f (J ((List.finRange xs.length).take k) wr) ∧ a_f (Below w.heap.size w wr) ∧ a_f (wr.heap[g]? = some (.cells #[.slice A xs.length c,.int .i64 en] 37 (0,0))) ∧ a_f (W.heap.size ≤ wr.heap.size))
  (fun i _ => xs.length - (intOf i).toNat)
 case atStart => exact ⟨0,Nat.zero_le _,rfl,⟨H0.out⟩,⟨HW.out⟩,⟨HG.out⟩,⟨Nat.le_refl _⟩⟩
 case round =>
  obtain ⟨k,hk,rfl,HJs,HB,HG2,HS⟩:=hrel
  by_cases hlt : k < xs.length
  rotate_left
  ·obtain rfl : k = xs.length:=by omega
   gi_wp2
   go_end0
   exact ⟨⟨_,rfl⟩,.inl ⟨_,rfl,by have:=HJs.out;rwa [List.take_of_length_le (by simp)] at this⟩⟩
  have hAe:=HA.out (by omega)
  subst hAe
  have hkc:=HM.out k hlt
  have hmom:=f_X.below HM.out rfl HB.out k hlt
  obtain ⟨e0,e1,_,_⟩:=hmom
  have hfr : (List.finRange xs.length)[k]'(by simpa using hlt) = ⟨k,hlt⟩:=by simp
  have htk : (List.finRange xs.length).take (k + 1) = (List.finRange xs.length).take k ++ [⟨k,hlt⟩]:=by rw [List.take_succ_eq_append_getElem (by simpa using hlt),hfr]
  have HT:=a_f.mk htk
  have hltz : (k : Int) < (xs.length : Int):=by omega
  have hgl:=a_B HG2.out
  have hgc0 : wr.cell? ⟨g,0,none⟩ = some (.slice (some ad) xs.length c):=(a_b HG2.out 0).trans rfl
  have hgc1 : wr.cell? ⟨g,1,none⟩ = some (.int .i64 en):=(a_b HG2.out 1).trans rfl
  clear hkc htk hfr
  gi_wp2
  have hf37 : Fence.wide.fn 42:=trivial
  have hn1 : 1 ≤ n:=by omega
  have hU:=m_O xs en k hlt hl
  have HU:=a_f.mk hU
  clear hU
  gi_region_with_o (first|(gi_at_call 42;refine (callsIn_wide.2 (e_k.calls _ _ xs en _ _ _ ?s1 hc HU.out)).mono ?_;(case s1 => exact Kd.b_i HC.out (HB.out.trans (Below.mono (by repeat (with_reducible first|exact Below.refl _ _|apply a_j|apply a_k|refine a_i ?_ (Nat.le_refl _))) HB.out.size)));rintro e w' ⟨rfl,hb⟩;have hx : Below wr.heap.size wr w':=Below.trans (by repeat (with_reducible first|exact Below.refl _ _|apply a_j|apply a_k|refine a_i ?_ (Nat.le_refl _))) (hb.mono (a_o (by repeat (with_reducible first|exact Below.refl _ _|apply a_j|apply a_k|refine a_i ?_ (Nat.le_refl _)))));have HX:=a_f.mk hx;clear hx;obtain ⟨hb1,hb2⟩:=s_R hb;have hbz:=hb.size;clear hb;obtain ⟨fn,tmps,assign,body,hy,hR⟩:=HY.out _ ⟨k,hlt⟩ w' (AbidesFrom.below HJ.out HJs.out HX.out) (by rw [List.length_take,List.length_finRange];omega);have HR:=a_f.mk (l_1 hR);clear hR;simp only [momV] at hy)|(refine HR.out.mono ?_;rintro e W3 ⟨bb,rfl,HBB⟩))
  all_goals
   cases bb with
   | true =>
    have HK3:=a_f.mk (HBB.out.1 rfl)
    clear HBB
    gi_wp2
    (try go_bits)
    go_roundw
    case rel => exact ⟨k + 1,by omega,by go_num,⟨by rw [HT.out];exact HK3.out.1⟩,⟨(HB.out.trans (HX.out.mono HB.out.size)).trans HK3.out.2.1⟩,⟨HK3.out.2.2.trans (a_l HG2.out HX.out)⟩,⟨Nat.le_trans HS.out (Nat.le_trans HX.out.size HK3.out.2.1.size)⟩⟩
    case measure => simp [intOf];omega
   | false =>
    have HK3:=a_f.mk (HBB.out.2 rfl)
    clear HBB
    gi_wp2
    (try go_bits)
    refine bodyPost_ret (results_none rfl _ _ _) rfl ?_
    exact ⟨⟨_,rfl⟩,.inr ⟨_,trivial,HK3.out⟩⟩
end
end Go.Proofs.YtgglkfilkagblaaDoor.Q
end
section
namespace Go.Proofs.YtgglkfilkagblaaDoor.Q
open Go.RowKit Go.Proofs.YtgglkfilkagblaaDoorW.PrintWords Go.Proofs.YtgglkfilkagblaaDoorW.PrintLast Go.Proofs.YtgglkfilkagblaaDoorW.PrintMore
set_option linter.unusedVariables false
set_option linter.unusedSimpArgs false
set_option maxHeartbeats 2000000 in
theorem e_V.any (g : Nat) (lb : Array Value) (eg : ∀ args w,(callFunc g args).run Tryd.prog w = .ok (.enter g args) w) (p : S33 → Bool) (A : Option Addr) (c : Nat) (xs : List S33) (w : World)
 (hr : Kd.C k33 w A xs.length xs) (hlen : xs.length ≤ 1099511627776)
 (hp : ∀ W,Below w.heap.size w W → ∀ x ∈ xs,Calls Tryd.prog g (#[.agg #[.int .i64 x.f0,.int .i64 x.f1,.int .i64 x.f2,.int .i64 x.f3,.int .i64 x.f4,.bool x.f5,.bool x.f6,.int .u32 x.f7,.int .i64 x.f8,.int .i64 x.f9,.int .i64 x.f10]] ++ lb) W fun e W' => e = .returned (.bool (p x)) ∧ Below W.heap.size W W') :
 Calls Tryd.prog 43 #[.slice A xs.length c,.func (.func g) #[] lb] w fun e w' => e = .returned (.int .i64 (idxOf p xs)) ∧ Below w.heap.size w w':=by
 have HP:=a_f.mk hp
 have HR:=a_f.mk hr
 clear hp hr
 go_enter Tryd.func43,Tryd.ntmps43
 go_wp2
 go_loopg [5,8] xs.length (fun gg _ s8 wr => ∃ kk : Nat,s8 = .int .i64 kk ∧ kk ≤ xs.length ∧ xs.length - kk ≤ gg ∧ a_f (Below w.heap.size w wr) ∧ a_f (∀ j (hj : j < kk) (hj2 : j < xs.length),p xs[j] = false))
 case atStart => exact ⟨0,rfl,Nat.zero_le _,by omega,⟨Below.refl _ _⟩,⟨fun j hj => absurd hj (Nat.not_lt_zero _)⟩⟩
 case round =>
  obtain ⟨kk,rfl,hkk,hg,HB,HN⟩:=hrel
  by_cases hlt : kk < xs.length
  rotate_left
  ·have hltz : ¬ (kk : Int) < (xs.length : Int):=by omega
   have : kk = xs.length:=by omega
   go_wp2
   go_ret
   refine ⟨?_,HB.out⟩
   rw [idxOf_miss (fun j hj => HN.out j (by omega) hj)];rfl
  have hltz : (kk : Int) < (xs.length : Int):=by omega
  obtain ⟨ad,rfl,e0,e1,e2,e3,e4,e5,e6,e7,e8,e9,e10⟩:=c_R (Kd.b_i HR.out HB.out) (kk : Int) (by omega) (by omega)
  have hx:=List.getElem_mem hlt
  have hrd : a_a xs (kk : Int) = xs[kk]:=by unfold a_a;simp [hlt]
  rw [hrd] at e0 e1 e2 e3 e4 e5 e6 e7 e8 e9 e10
  simp only [Int.toNat_natCast] at e0 e1 e2 e3 e4 e5 e6 e7 e8 e9 e10
  have hcall:=HP.out _ HB.out _ hx
  generalize hy : xs[kk] = y at e0 e1 e2 e3 e4 e5 e6 e7 e8 e9 e10 hcall hx
  have HY:=a_f.mk hy
  clear hy hx hrd
  cases hq : p y with
  | true =>
   rw [hq] at hcall
   go_wp2_with (go_at_fn g;refine hcall.mono ?_;rintro e w' ⟨rfl,hb'⟩)
   go_ret
   refine ⟨?_,HB.out.trans (hb'.mono (a_o HB.out))⟩
   rw [idxOf_hit hlt (by rw [HY.out];exact hq) (fun j hj => HN.out j hj (by omega))];rfl
  | false =>
   rw [hq] at hcall
   go_wp2_with (go_at_fn g;refine hcall.mono ?_;rintro e w' ⟨rfl,hb'⟩)
   go_roundg (xs.length - (kk + 1))
   case measure => omega
   case rel =>
    exact ⟨kk + 1,by go_num,by omega,by omega,⟨HB.out.trans (hb'.mono (a_o HB.out))⟩,⟨fun j hj hj2 => by
     by_cases e : j = kk
     ·subst e;rw [HY.out];exact hq
     exact HN.out j (by omega) hj2⟩⟩
set_option maxHeartbeats 2000000 in
theorem i_e.calls (g : Nat) (x : S33) (a1 : Int) (w : World) (hb : w.heap[g]? = some (.cells #[.int .i64 a1] 3 (0,0))) :
 Calls Tryd.prog 44 (#[.agg #[.int .i64 x.f0,.int .i64 x.f1,.int .i64 x.f2,.int .i64 x.f3,.int .i64 x.f4,.bool x.f5,.bool x.f6,.int .u32 x.f7,.int .i64 x.f8,.int .i64 x.f9,.int .i64 x.f10]] ++ #[.pointer (some ⟨g,0,none⟩)]) w fun e w' => e = .returned (.bool (x.f0 == a1)) ∧ Below w.heap.size w w':=by
 have hc:=(a_b hb 0).trans rfl
 have hf:=a_c hb 0
 have hlt:=a_B hb
 clear hb
 go_enter Tryd.func44,Tryd.ntmps44
 go_wp2
 go_ret
 exact ⟨rfl,(Below.refl _ _).alloc (Nat.le_refl _) _⟩
def a_3.f (l0 : List S33) (a : Int) : Option Int:=if l0.length ≤ 1099511627776 then some (idxOf (fun s => s.f0 == a) l0) else none
theorem a_3.calls (A0 : Option Addr) (c0 : Nat) (l0 : List S33) (g : Nat) (a : Int) (r : Int) (w : World) (hr0 : Kd.C k33 w A0 l0.length l0) (hc0 : l0.length ≤ c0) (hb : w.heap[g]? = some (.cells #[.int .i64 a] 3 (0,0))) (h : a_3.f l0 a = some r) :
 Calls Tryd.prog 43 #[.slice A0 l0.length c0,.func (.func 44) #[] #[.pointer (some ⟨g,0,none⟩)]] w fun e w' => e = .returned (.int .i64 r) ∧ Below w.heap.size w w':=by
 unfold a_3.f at h
 split at h
 case isFalse => cases h
 case isTrue hl =>
 obtain rfl:=Option.some.inj h
 exact e_V.any 44 _ (e_2 Tryd.func44 (by kernel_rfl) rfl) _ A0 c0 l0 w hr0 hl (fun W hW x _ => i_e.calls g x a W ((hW.block _ (a_B hb)).trans hb))
end Go.Proofs.YtgglkfilkagblaaDoor.Q
end
