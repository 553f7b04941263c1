/- Part 10 of 14 of what the row of AuditAdds stands on: contracts over the given program's functions, the plain law, the row; no condition beyond those that each theorem states. -/
import Derived.Test.YtgglkfilkagblaaXAuditAdds8
import Derived.RangeFuncNested
import Derived.RangeFuncBound
import Derived.RangeFuncCalls
import Derived.RangeFuncLeaves
import Derived.Shelf.RegionOpen
import Derived.OwnWalkIn
import Derived.TacticsInMore
import Derived.LoopNIn
import Derived.LoopIn
section
namespace Go.Proofs.Ytgglkfilkagblaa.Q
open Go.RowKit Go.Proofs.YtgglkfilkagblaaW.PrintWords Go.Proofs.YtgglkfilkagblaaW.PrintLast Go.Proofs.YtgglkfilkagblaaW.PrintMore
set_option linter.unusedVariables false
set_option linter.unusedSimpArgs false
mutual
def a_v.j0 : Nat → Bool → List (S27) → Int → Int → List (S65) → Option ((List (S27)) × Int × Int)
 | 0,_,_,_,_,_ => none
 | k + 1,x21,x226000,x226001,x227000,x227001 => if x21 = true then (some (([] : List (S27)),0,2)) else (a_v.l0 k ([] : List (S27)) 0 x226000 x226001 x227000 x227001)
def a_v.l0 : Nat → List (S27) → Int → List (S27) → Int → Int → List (S65) → Option ((List (S27)) × Int × Int)
 | 0,_,_,_,_,_,_ => none
 | k + 1,x6,x7,x226000,x226001,x227000,x227001 => if x7 < (x226000.length : Int) then (if 0 ≤ x7 then (if ((a_o x226000 x7).f0) = x227000 then (a_v.l0 k x6 (wrap64 (x7 + 1)) x226000 x226001 x227000 x227001) else (if x6.length < 4398046511104 then (a_v.l0 k (x6 ++ [(⟨(a_o x226000 x7).f0,(a_o x226000 x7).f1⟩ : S27)]) (wrap64 (x7 + 1)) x226000 x226001 x227000 x227001) else (none))) else (none)) else (if (x6.length : Int) = 2000 then (some (([] : List (S27)),0,6)) else (if x6.length < 4398046511104 then (some ((x6 ++ [(⟨x227000,x227001⟩ : S27)]),x227000,0)) else (none)))
end
def a_v.f (k : Nat) (l0_0 : List (S27)) (a0_1 : Int) (a1_0 : Int) (l1_1 : List (S65)) : Option ((List (S27)) × Int × Int):=(a_q.f k l0_0 a0_1).bind fun t228 => (if t228 = true then ((a_m.f k a1_0 l1_1).bind fun t229 => (if t229 = true then (a_v.j0 k (decide (a1_0 < a0_1)) l0_0 a0_1 a1_0 l1_1) else (a_v.j0 k true l0_0 a0_1 a1_0 l1_1))) else (some (([] : List (S27)),0,390)))
theorem a_v.c_N : ∀ k,(∀ y0 y1 y2 y3 y4,LeO (a_v.j0 k y0 y1 y2 y3 y4) (a_v.j0 (k + 1) y0 y1 y2 y3 y4)) ∧ (∀ y0 y1 y2 y3 y4 y5,LeO (a_v.l0 k y0 y1 y2 y3 y4 y5) (a_v.l0 (k + 1) y0 y1 y2 y3 y4 y5))
 | 0 => ⟨fun _ _ _ _ _ r h => by simp [a_v.j0] at h,fun _ _ _ _ _ _ r h => by simp [a_v.l0] at h⟩
 | k + 1 => by
  obtain ⟨ih0,ih1⟩:=a_v.c_N k
  refine ⟨?_,?_⟩
  ·intro y0 y1 y2 y3 y4
   unfold a_v.j0
   repeat' first
   | (with_reducible exact ih0 _ _ _ _ _)
   | (with_reducible exact ih1 _ _ _ _ _ _)
   | (with_reducible exact a_q.mono _ _ _)
   | (with_reducible exact a_m.mono _ _ _)
   | (with_reducible exact LeO.refl _)
   | (with_reducible exact LeO.none _)
   | (with_reducible refine LeO.ite ?_ ?_)
   | (with_reducible refine LeO.bind ?_ (fun _ => ?_))
   | exact ih0 _ _ _ _ _
   | exact ih1 _ _ _ _ _ _
   | exact a_q.mono _ _ _
   | exact a_m.mono _ _ _
   | exact LeO.none _
   | refine LeO.ite ?_ ?_
   | refine LeO.bind ?_ (fun _ => ?_)
  ·intro y0 y1 y2 y3 y4 y5
   unfold a_v.l0
   repeat' first
   | (with_reducible exact ih0 _ _ _ _ _)
   | (with_reducible exact ih1 _ _ _ _ _ _)
   | (with_reducible exact a_q.mono _ _ _)
   | (with_reducible exact a_m.mono _ _ _)
   | (with_reducible exact LeO.refl _)
   | (with_reducible exact LeO.none _)
   | (with_reducible refine LeO.ite ?_ ?_)
   | (with_reducible refine LeO.bind ?_ (fun _ => ?_))
   | exact ih0 _ _ _ _ _
   | exact ih1 _ _ _ _ _ _
   | exact a_q.mono _ _ _
   | exact a_m.mono _ _ _
   | exact LeO.none _
   | refine LeO.ite ?_ ?_
   | refine LeO.bind ?_ (fun _ => ?_)
theorem a_v.mono : ∀ a0 a1 a2 a3 k,LeO (a_v.f k a0 a1 a2 a3) (a_v.f (k + 1) a0 a1 a2 a3):=by
 intro a0 a1 a2 a3 k
 obtain ⟨ih0,ih1⟩:=a_v.c_N k
 unfold a_v.f
 repeat' first
  | (with_reducible exact ih0 _ _ _ _ _)
  | (with_reducible exact ih1 _ _ _ _ _ _)
  | (with_reducible exact a_q.mono _ _ _)
  | (with_reducible exact a_m.mono _ _ _)
  | (with_reducible exact LeO.refl _)
  | (with_reducible exact LeO.none _)
  | (with_reducible refine LeO.ite ?_ ?_)
  | (with_reducible refine LeO.bind ?_ (fun _ => ?_))
  | exact ih0 _ _ _ _ _
  | exact ih1 _ _ _ _ _ _
  | exact a_q.mono _ _ _
  | exact a_m.mono _ _ _
  | exact LeO.none _
  | refine LeO.ite ?_ ?_
  | refine LeO.bind ?_ (fun _ => ?_)
def a_v.T9 : Bool × List (List Nat × List Nat):=(true,[([],[]),([0],[0]),([],[]),([1,2],[1,2]),([3],[3]),([4],[4]),([],[]),([6],[6]),([5,7],[5,7])])
def a_v.B9 : List Nat:=[0,1,0,7,15,31,0,64,255]
theorem a_v.tab9 : rtab .any (opsOf Try.f12 9) = a_v.T9:=by kernel_rfl
theorem a_v.v_P : f_e a_v.T9.2 a_v.B9 = true:=by kernel_rfl
def a_v.T13 : Bool × List (List Nat × List Nat):=(true,[([],[]),([],[]),([1],[1]),([0,2],[0,2]),([],[]),([4],[4]),([3,5],[3,5]),([6,3,0,1,2,3,4,5,6],[6]),([7,0,1,2,3,4,5,6,7],[])])
def a_v.B13 : List Nat:=[0,0,2,7,0,16,63,127,255]
theorem a_v.A_e : rtab .any (opsOf Try.f12 13) = a_v.T13:=by kernel_rfl
theorem a_v.v_T : f_e a_v.T13.2 a_v.B13 = true:=by kernel_rfl
set_option maxHeartbeats 8000000 in
set_option maxRecDepth 100000 in
theorem a_v.calls (k : Nat) (P0_0_ : Nat → Prop) (A0_0 : Option Addr) (c0_0 : Nat) (l0_0 : List (S27)) (a0_1 : Int) (a1_0 : Int) (P1_1_ : Nat → Prop) (A1_1 : Option Addr) (c1_1 : Nat) (l1_1 : List (S65)) (r1 : List (S27)) (r2 : Int) (r3 : Int) (w : World) (hs0_0 : Kd.V k27 27 w w.heap.size (fun k_ => P0_0_ k_) (.slice A0_0 l0_0.length c0_0) l0_0) (hs1_1 : Kd.V k65 65 w w.heap.size (fun k_ => P1_1_ k_) (.slice A1_1 l1_1.length c1_1) l1_1) (h : a_v.f k l0_0 a0_1 a1_0 l1_1 = some (r1,r2,r3)) :
 Calls Try.prog 12 #[.agg #[.slice A0_0 l0_0.length c0_0,.int .i64 a0_1],.agg #[.int .i64 a1_0,.slice A1_1 l1_1.length c1_1]] w fun e w' => ∃ v0_ : Value,e = .returned (.tuple #[.agg #[v0_,.int .i64 r2],.int .i64 r3]) ∧ Kd.N k27 27 w' w.heap.size (fun k_ => ((P0_0_ k_ ∨ P1_1_ k_) ∨ w.heap.size ≤ k_)) v0_ r1 ∧ Below w.heap.size w w':=by
 have hu24:=Try.underlying24
 have hu27:=Try.underlying27
 have b_o:=a_e.mk (show Kd.V k27 27 w w.heap.size (fun k_ => ((P0_0_ k_ ∨ P1_1_ k_) ∨ w.heap.size ≤ k_)) (.slice A0_0 l0_0.length c0_0) l0_0 from Kd.b_X hs0_0 (fun k_ hk => .inl (.inl hk)))
 have b_Z:=a_e.mk (show Kd.V k65 65 w w.heap.size (fun k_ => ((P0_0_ k_ ∨ P1_1_ k_) ∨ w.heap.size ≤ k_)) (.slice A1_1 l1_1.length c1_1) l1_1 from Kd.b_X hs1_1 (fun k_ hk => .inl (.inr hk)))
 have HB:=a_e.mk (Below.refl w.heap.size w)
 have H : ((a_q.f k l0_0 a0_1).bind fun t228 => (if t228 = true then ((a_m.f k a1_0 l1_1).bind fun t229 => (if t229 = true then (a_v.j0 k (decide (a1_0 < a0_1)) l0_0 a0_1 a1_0 l1_1) else (a_v.j0 k true l0_0 a0_1 a1_0 l1_1))) else (some (([] : List (S27)),0,390)))) = some (r1,r2,r3):=h
 clear h
 replace H:=Option.bind_eq_some_iff.mp H
 obtain ⟨t228,A30,H⟩:=H
 replace H : (if t228 = true then ((a_m.f k a1_0 l1_1).bind fun t229 => (if t229 = true then (a_v.j0 k (decide (a1_0 < a0_1)) l0_0 a0_1 a1_0 l1_1) else (a_v.j0 k true l0_0 a0_1 a1_0 l1_1))) else (some (([] : List (S27)),0,390))) = some (r1,r2,r3):=H
 have A3:=a_e.mk A30
 clear A30
 by_cases c4 : t228 = true
 rotate_left
 ·replace c4:=Bool.eq_false_iff.mpr c4
  subst c4
  have H1 : (some (([] : List (S27)),0,390)) = some (r1,r2,r3):=by rw [if_neg (show ¬ (false = true) by decide)] at H;exact H
  clear H
  have H:=H1
  clear H1
  simp only [Option.some.injEq,Prod.mk.injEq] at H
  obtain ⟨rfl,rfl,rfl⟩:=H
  go_enter Try.func12,Try.ntmps12
  go_wp2_with (first|((with_reducible refine a_U (N:=2) rfl ?_);refine a_H ?hg (N:=2) ?hd (cs:=#[.slice A0_0 l0_0.length c0_0,.int .i64 a0_1]) (t:=24) ?hr ?_;(case hd => rfl);(case hg => rfl);(case hr => first|(go_simp;done)|(go_simp;rfl));intro c_q hg w61 hbox hb;have b_V:=a_e.mk (hbox);have H_w:=a_e.mk ((by rw [hg];exact (a_p (lup_ HB.out)) : w.heap.size ≤ c_q));have e_G:=a_e.mk ((by rw [hg];exact (a_p (lup_ HB.out)) : w.heap.size ≤ c_q));replace b_o:=a_e.mk (Kd.a_3 (Kd.b_q (by (with_reducible repeat (first|apply Kd.a_Q|apply Kd.a_O|apply Kd.a_W));exact b_o.out) c_q (Nat.le_of_eq hg.symm)) hb);replace b_Z:=a_e.mk (Kd.a_3 (Kd.b_q (by (with_reducible repeat (first|apply Kd.a_Q|apply Kd.a_O|apply Kd.a_W));exact b_Z.out) c_q (Nat.le_of_eq hg.symm)) hb);replace HB:=a_e.mk (a_t (lup_ HB.out) hb);clear hb hbox hg)|((with_reducible refine a_U (N:=3) rfl ?_);refine a_H ?hg (N:=3) ?hd (cs:=#[.int .i64 a1_0,.slice A1_1 l1_1.length c1_1]) (t:=27) ?hr ?_;(case hd => rfl);(case hg => rfl);(case hr => first|(go_simp;done)|(go_simp;rfl));intro c_S hg w62 hbox hb;have c_r:=a_e.mk (hbox);have H_x:=a_e.mk ((by rw [hg];exact (a_p (by repeat (first|(with_reducible first|exact HB.out|apply a_g|apply a_f|apply a_h|refine a_d ?_ e_G.out)|exact HB.out))) : w.heap.size ≤ c_S));have f_o:=a_e.mk ((by rw [hg];exact (a_p (by repeat (first|(with_reducible first|exact HB.out|apply a_g|apply a_f|apply a_h|refine a_d ?_ e_G.out)|exact HB.out))) : w.heap.size ≤ c_S));have e_3:=a_e.mk ((by rw [hg];exact Nat.ne_of_lt (a_N (bup_ b_V.out)) : c_q ≠ c_S));have e_4:=a_e.mk ((by rw [hg];exact Nat.ne_of_gt (a_N (bup_ b_V.out)) : c_S ≠ c_q));replace b_o:=a_e.mk (Kd.a_3 (Kd.b_q (by (with_reducible repeat (first|apply Kd.a_Q|apply Kd.a_O|apply Kd.a_W));exact b_o.out) c_S (Nat.le_of_eq hg.symm)) hb);replace b_Z:=a_e.mk (Kd.a_3 (Kd.b_q (by (with_reducible repeat (first|apply Kd.a_Q|apply Kd.a_O|apply Kd.a_W));exact b_Z.out) c_S (Nat.le_of_eq hg.symm)) hb);replace b_V:=a_e.mk (a_l (bup_ b_V.out) hb);replace HB:=a_e.mk (a_t (by repeat (first|(with_reducible first|exact HB.out|apply a_g|apply a_f|apply a_h|refine a_d ?_ e_G.out)|exact HB.out)) hb);clear hb hbox hg)|((with_reducible refine a_U (N:=4) rfl ?_);refine a_H ?hg (N:=4) ?hd (cs:=#[.slice none 0 0,.int .i64 0]) (t:=24) ?hr ?_;(case hd => rfl);(case hg => rfl);(case hr => first|(go_simp;done)|(go_simp;rfl));intro c_s hg w63 hbox hb;have c_W:=a_e.mk (hbox);have H_y:=a_e.mk ((by rw [hg];exact (a_p (by repeat (first|(with_reducible first|exact HB.out|apply a_g|apply a_f|apply a_h|refine a_d ?_ e_G.out|refine a_d ?_ f_o.out)|exact HB.out))) : w.heap.size ≤ c_s));have f_3:=a_e.mk ((by rw [hg];exact (a_p (by repeat (first|(with_reducible first|exact HB.out|apply a_g|apply a_f|apply a_h|refine a_d ?_ e_G.out|refine a_d ?_ f_o.out)|exact HB.out))) : w.heap.size ≤ c_s));have e_v:=a_e.mk ((by rw [hg];exact Nat.ne_of_lt (a_N (bup_ b_V.out)) : c_q ≠ c_s));have e_w:=a_e.mk ((by rw [hg];exact Nat.ne_of_gt (a_N (bup_ b_V.out)) : c_s ≠ c_q));have e_j:=a_e.mk ((by rw [hg];exact Nat.ne_of_lt (a_N (bup_ c_r.out)) : c_S ≠ c_s));have f_p:=a_e.mk ((by rw [hg];exact Nat.ne_of_gt (a_N (bup_ c_r.out)) : c_s ≠ c_S));replace b_o:=a_e.mk (Kd.a_3 (Kd.b_q (by (with_reducible repeat (first|apply Kd.a_Q|apply Kd.a_O|apply Kd.a_W));exact b_o.out) c_s (Nat.le_of_eq hg.symm)) hb);replace b_Z:=a_e.mk (Kd.a_3 (Kd.b_q (by (with_reducible repeat (first|apply Kd.a_Q|apply Kd.a_O|apply Kd.a_W));exact b_Z.out) c_s (Nat.le_of_eq hg.symm)) hb);replace b_V:=a_e.mk (a_l (bup_ b_V.out) hb);replace c_r:=a_e.mk (a_l (bup_ c_r.out) hb);replace HB:=a_e.mk (a_t (by repeat (first|(with_reducible first|exact HB.out|apply a_g|apply a_f|apply a_h|refine a_d ?_ e_G.out|refine a_d ?_ f_o.out)|exact HB.out)) hb);clear hb hbox hg;have O_D:=e_3.out;have O_E:=e_4.out;have E_w:=e_v.out;have E_x:=e_w.out;have u_u : w63.cell? ⟨c_q,0,none⟩ = some (.slice A0_0 l0_0.length c0_0):=(a_a b_V.out 0).trans rfl;have u_v : w63.cell? ⟨c_q,1,none⟩ = some (.int .i64 a0_1):=(a_a b_V.out 1).trans rfl;have u_w:=a_b b_V.out 0;have u_x:=a_b b_V.out 1)|((with_reducible refine a_P (f:=15) rfl ?_);refine b_v (some 9) rfl rfl Try.func15 (by kernel_rfl) rfl #[.agg #[.slice A0_0 l0_0.length c0_0,.int .i64 a0_1]] rfl (by (try simp only [List.map_toArray,List.map_cons,List.map_nil]);first|done|rfl|(simp only [List.length_drop,List.length_take];rfl)) ?_;(with_reducible refine (a_q.calls k _ _ l0_0 a0_1 false _ ?side1 ?side2 A3.out).mono ?_);(case side1 => repeat (first|exact (Kd.b_n b_o.out).2.2|(with_reducible refine Kd.a_9 ?_ _)|(with_reducible refine Kd.a_8 ?_ _)|(with_reducible refine Kd.b_i ?_)));(case side2 => exact (Kd.b_n b_o.out).2.1);rintro e w67 ⟨rfl,hb⟩;refine ⟨_,rfl,?_⟩;replace b_o:=a_e.mk (Kd.a_3 (by (with_reducible repeat (first|apply Kd.a_Q|apply Kd.a_O|apply Kd.a_W));exact b_o.out) hb);replace b_Z:=a_e.mk (Kd.a_3 (by (with_reducible repeat (first|apply Kd.a_Q|apply Kd.a_O|apply Kd.a_W));exact b_Z.out) hb);replace b_V:=a_e.mk (a_l (bup_ b_V.out) hb);replace c_r:=a_e.mk (a_l (bup_ c_r.out) hb);replace c_W:=a_e.mk (a_l (bup_ c_W.out) hb);replace HB:=a_e.mk (a_t (by repeat (first|(with_reducible first|exact HB.out|apply a_g|apply a_f|apply a_h|refine a_d ?_ e_G.out|refine a_d ?_ f_o.out|refine a_d ?_ f_3.out)|exact HB.out)) hb);(try clear hb);(try clear hb2);(try clear hk);(try clear hi);have E_y:=f_p.out;have E_z:=e_j.out;have H_z : w67.cell? ⟨c_s,0,none⟩ = some (.slice none 0 0):=(a_a c_W.out 0).trans rfl;have H_A : w67.cell? ⟨c_s,1,none⟩ = some (.int .i64 0):=(a_a c_W.out 1).trans rfl;have H_B:=a_b c_W.out 0;have H_C:=a_b c_W.out 1))
  refine bodyPost_ret (c_o rfl _ _ c_s 24 #[.slice none 0 0,.int .i64 0] (0,0) _ rfl (by (with_reducible repeat (first|refine a_j ?_ _|refine a_k ?_|refine a_i ?_ _));refine a_J (cs:=#[.slice none 0 0,.int .i64 0]) ?_ 1 _ rfl;(with_reducible repeat (first|refine a_j ?_ _|refine a_k ?_|refine a_i ?_ _));refine a_J (cs:=#[.slice none 0 0,.int .i64 0]) ?_ 0 _ rfl;(with_reducible repeat (first|refine a_j ?_ _|refine a_k ?_|refine a_i ?_ _));exact c_W.out) Try.underlying24 rfl (by kernel_rfl)) rfl ?_
  exact ⟨_,by first|rfl|(simp [a_w,a_x] <;> rfl)|(simp [*, a_w,a_x] <;> rfl),by first|exact Kd.k_l _ _ _ _ _|exact Kd.i_U _ _ _ _ _|exact Kd.h_O _ _ _ _ _|exact Kd.k_e _ _ _ _ _|exact Kd.i_b _ _ _ _ _,by repeat (first|(with_reducible first|exact HB.out|apply a_g|apply a_f|apply a_h|refine a_d ?_ e_G.out|refine a_d ?_ f_o.out|refine a_d ?_ f_3.out)|exact HB.out)⟩
 subst c4
 have H1 : ((a_m.f k a1_0 l1_1).bind fun t229 => (if t229 = true then (a_v.j0 k (decide (a1_0 < a0_1)) l0_0 a0_1 a1_0 l1_1) else (a_v.j0 k true l0_0 a0_1 a1_0 l1_1))) = some (r1,r2,r3):=by rw [if_pos rfl] at H;exact H
 clear H
 have H:=H1
 clear H1
 have HC5:=a_e.mk H
 clear H
 go_enter Try.func12,Try.ntmps12
 go_upto_region 3 with (first|((with_reducible refine a_U (N:=2) rfl ?_);refine a_H ?hg (N:=2) ?hd (cs:=#[.slice A0_0 l0_0.length c0_0,.int .i64 a0_1]) (t:=24) ?hr ?_;(case hd => rfl);(case hg => rfl);(case hr => first|(go_simp;done)|(go_simp;rfl));intro c_q hg w6 hbox hb;have b_V:=a_e.mk (hbox);have H_w:=a_e.mk ((by rw [hg];exact (a_p (lup_ HB.out)) : w.heap.size ≤ c_q));have e_G:=a_e.mk ((by rw [hg];exact (a_p (lup_ HB.out)) : w.heap.size ≤ c_q));replace b_o:=a_e.mk (Kd.a_3 (Kd.b_q (by (with_reducible repeat (first|apply Kd.a_Q|apply Kd.a_O|apply Kd.a_W));exact b_o.out) c_q (Nat.le_of_eq hg.symm)) hb);replace b_Z:=a_e.mk (Kd.a_3 (Kd.b_q (by (with_reducible repeat (first|apply Kd.a_Q|apply Kd.a_O|apply Kd.a_W));exact b_Z.out) c_q (Nat.le_of_eq hg.symm)) hb);replace HB:=a_e.mk (a_t (lup_ HB.out) hb);clear hb hbox hg)|((with_reducible refine a_U (N:=3) rfl ?_);refine a_H ?hg (N:=3) ?hd (cs:=#[.int .i64 a1_0,.slice A1_1 l1_1.length c1_1]) (t:=27) ?hr ?_;(case hd => rfl);(case hg => rfl);(case hr => first|(go_simp;done)|(go_simp;rfl));intro c_S hg w7 hbox hb;have c_r:=a_e.mk (hbox);have H_x:=a_e.mk ((by rw [hg];exact (a_p (by repeat (first|(with_reducible first|exact HB.out|apply a_g|apply a_f|apply a_h|refine a_d ?_ e_G.out)|exact HB.out))) : w.heap.size ≤ c_S));have f_o:=a_e.mk ((by rw [hg];exact (a_p (by repeat (first|(with_reducible first|exact HB.out|apply a_g|apply a_f|apply a_h|refine a_d ?_ e_G.out)|exact HB.out))) : w.heap.size ≤ c_S));have e_3:=a_e.mk ((by rw [hg];exact Nat.ne_of_lt (a_N (bup_ b_V.out)) : c_q ≠ c_S));have e_4:=a_e.mk ((by rw [hg];exact Nat.ne_of_gt (a_N (bup_ b_V.out)) : c_S ≠ c_q));replace b_o:=a_e.mk (Kd.a_3 (Kd.b_q (by (with_reducible repeat (first|apply Kd.a_Q|apply Kd.a_O|apply Kd.a_W));exact b_o.out) c_S (Nat.le_of_eq hg.symm)) hb);replace b_Z:=a_e.mk (Kd.a_3 (Kd.b_q (by (with_reducible repeat (first|apply Kd.a_Q|apply Kd.a_O|apply Kd.a_W));exact b_Z.out) c_S (Nat.le_of_eq hg.symm)) hb);replace b_V:=a_e.mk (a_l (bup_ b_V.out) hb);replace HB:=a_e.mk (a_t (by repeat (first|(with_reducible first|exact HB.out|apply a_g|apply a_f|apply a_h|refine a_d ?_ e_G.out)|exact HB.out)) hb);clear hb hbox hg)|((with_reducible refine a_U (N:=4) rfl ?_);refine a_H ?hg (N:=4) ?hd (cs:=#[.slice none 0 0,.int .i64 0]) (t:=24) ?hr ?_;(case hd => rfl);(case hg => rfl);(case hr => first|(go_simp;done)|(go_simp;rfl));intro c_s hg w8 hbox hb;have c_W:=a_e.mk (hbox);have H_y:=a_e.mk ((by rw [hg];exact (a_p (by repeat (first|(with_reducible first|exact HB.out|apply a_g|apply a_f|apply a_h|refine a_d ?_ e_G.out|refine a_d ?_ f_o.out)|exact HB.out))) : w.heap.size ≤ c_s));have f_3:=a_e.mk ((by rw [hg];exact (a_p (by repeat (first|(with_reducible first|exact HB.out|apply a_g|apply a_f|apply a_h|refine a_d ?_ e_G.out|refine a_d ?_ f_o.out)|exact HB.out))) : w.heap.size ≤ c_s));have e_v:=a_e.mk ((by rw [hg];exact Nat.ne_of_lt (a_N (bup_ b_V.out)) : c_q ≠ c_s));have e_w:=a_e.mk ((by rw [hg];exact Nat.ne_of_gt (a_N (bup_ b_V.out)) : c_s ≠ c_q));have e_j:=a_e.mk ((by rw [hg];exact Nat.ne_of_lt (a_N (bup_ c_r.out)) : c_S ≠ c_s));have f_p:=a_e.mk ((by rw [hg];exact Nat.ne_of_gt (a_N (bup_ c_r.out)) : c_s ≠ c_S));replace b_o:=a_e.mk (Kd.a_3 (Kd.b_q (by (with_reducible repeat (first|apply Kd.a_Q|apply Kd.a_O|apply Kd.a_W));exact b_o.out) c_s (Nat.le_of_eq hg.symm)) hb);replace b_Z:=a_e.mk (Kd.a_3 (Kd.b_q (by (with_reducible repeat (first|apply Kd.a_Q|apply Kd.a_O|apply Kd.a_W));exact b_Z.out) c_s (Nat.le_of_eq hg.symm)) hb);replace b_V:=a_e.mk (a_l (bup_ b_V.out) hb);replace c_r:=a_e.mk (a_l (bup_ c_r.out) hb);replace HB:=a_e.mk (a_t (by repeat (first|(with_reducible first|exact HB.out|apply a_g|apply a_f|apply a_h|refine a_d ?_ e_G.out|refine a_d ?_ f_o.out)|exact HB.out)) hb);clear hb hbox hg;have hnb9:=e_3.out;have hnc9:=e_4.out;have H_D:=e_v.out;have H_E:=e_w.out;have g_h : w8.cell? ⟨c_q,0,none⟩ = some (.slice A0_0 l0_0.length c0_0):=(a_a b_V.out 0).trans rfl;have g_i : w8.cell? ⟨c_q,1,none⟩ = some (.int .i64 a0_1):=(a_a b_V.out 1).trans rfl;have g_j:=a_b b_V.out 0;have f_D:=a_b b_V.out 1)|((with_reducible refine a_P (f:=15) rfl ?_);refine b_v (some 9) rfl rfl Try.func15 (by kernel_rfl) rfl #[.agg #[.slice A0_0 l0_0.length c0_0,.int .i64 a0_1]] rfl (by (try simp only [List.map_toArray,List.map_cons,List.map_nil]);first|done|rfl|(simp only [List.length_drop,List.length_take];rfl)) ?_;(with_reducible refine (a_q.calls k _ _ l0_0 a0_1 true _ ?side1 ?side2 A3.out).mono ?_);(case side1 => repeat (first|exact (Kd.b_n b_o.out).2.2|(with_reducible refine Kd.a_9 ?_ _)|(with_reducible refine Kd.a_8 ?_ _)|(with_reducible refine Kd.b_i ?_)));(case side2 => exact (Kd.b_n b_o.out).2.1);rintro e w12 ⟨rfl,hb⟩;refine ⟨_,rfl,?_⟩;replace b_o:=a_e.mk (Kd.a_3 (by (with_reducible repeat (first|apply Kd.a_Q|apply Kd.a_O|apply Kd.a_W));exact b_o.out) hb);replace b_Z:=a_e.mk (Kd.a_3 (by (with_reducible repeat (first|apply Kd.a_Q|apply Kd.a_O|apply Kd.a_W));exact b_Z.out) hb);replace b_V:=a_e.mk (a_l (bup_ b_V.out) hb);replace c_r:=a_e.mk (a_l (bup_ c_r.out) hb);replace c_W:=a_e.mk (a_l (bup_ c_W.out) hb);replace HB:=a_e.mk (a_t (by repeat (first|(with_reducible first|exact HB.out|apply a_g|apply a_f|apply a_h|refine a_d ?_ e_G.out|refine a_d ?_ f_o.out|refine a_d ?_ f_3.out)|exact HB.out)) hb);(try clear hb);(try clear hb2);(try clear hk);(try clear hi)))
 (try simp only [Act.put,sa_,sb_,sc_])
 go_cut [21] (fun v21 wc => ∃ (kq : Nat) (x21_4 : Bool),v21 = .bool x21_4 ∧ a_e (a_v.j0 kq x21_4 l0_0 a0_1 a1_0 l1_1 = some (r1,r2,r3)) ∧ a_e (kq ≤ k) ∧ a_e (Kd.V k27 27 wc w.heap.size (fun k_ => ((P0_0_ k_ ∨ P1_1_ k_) ∨ w.heap.size ≤ k_) ∧ k_ ≠ c_q ∧ k_ ≠ c_S ∧ k_ ≠ c_s) (.slice A0_0 l0_0.length c0_0) l0_0) ∧ a_e (Kd.V k65 65 wc w.heap.size (fun k_ => ((P0_0_ k_ ∨ P1_1_ k_) ∨ w.heap.size ≤ k_) ∧ k_ ≠ c_q ∧ k_ ≠ c_S ∧ k_ ≠ c_s) (.slice A1_1 l1_1.length c1_1) l1_1) ∧ a_e (wc.heap[c_q]? = some (.cells #[(.slice A0_0 l0_0.length c0_0),.int .i64 a0_1] 24 (0,0))) ∧ a_e (wc.heap[c_S]? = some (.cells #[.int .i64 a1_0,(.slice A1_1 l1_1.length c1_1)] 27 (0,0))) ∧ a_e (wc.heap[c_s]? = some (.cells #[(.slice none 0 0),.int .i64 0] 24 (0,0))) ∧ a_e (Below w.heap.size w wc))
 case first =>
  have H:=HC5.out
  clear HC5
  replace H:=Option.bind_eq_some_iff.mp H
  obtain ⟨t229,A130,H⟩:=H
  replace H : (if t229 = true then (a_v.j0 k (decide (a1_0 < a0_1)) l0_0 a0_1 a1_0 l1_1) else (a_v.j0 k true l0_0 a0_1 a1_0 l1_1)) = some (r1,r2,r3):=H
  have A13:=a_e.mk A130
  clear A130
  by_cases c14 : t229 = true
  ·subst c14
   have H1 : (a_v.j0 k (decide (a1_0 < a0_1)) l0_0 a0_1 a1_0 l1_1) = some (r1,r2,r3):=by rw [if_pos rfl] at H;exact H
   clear H
   have H:=H1
   clear H1
   have H':=a_e.mk H
   clear H
   have r_p:=e_4.out
   have r_q:=e_3.out
   have B_B:=e_j.out
   have B_C:=f_p.out
   have m_Z : w12.cell? ⟨c_S,0,none⟩ = some (.int .i64 a1_0):=(a_a c_r.out 0).trans rfl
   have m_0 : w12.cell? ⟨c_S,1,none⟩ = some (.slice A1_1 l1_1.length c1_1):=(a_a c_r.out 1).trans rfl
   have m_1:=a_b c_r.out 0
   have m_2:=a_b c_r.out 1
   go_wp2_with (first|((with_reducible refine a_P (f:=26) rfl ?_);refine b_v (some 13) rfl rfl Try.func26 (by kernel_rfl) rfl #[.agg #[.int .i64 a1_0,.slice A1_1 l1_1.length c1_1]] rfl (by (try simp only [List.map_toArray,List.map_cons,List.map_nil]);first|done|rfl|(simp only [List.length_drop,List.length_take];rfl)) ?_;(with_reducible refine (a_m.calls k a1_0 _ _ l1_1 true _ ?side1 ?side2 A13.out).mono ?_);(case side1 => repeat (first|exact (Kd.b_n b_Z.out).2.2|(with_reducible refine Kd.a_9 ?_ _)|(with_reducible refine Kd.a_8 ?_ _)|(with_reducible refine Kd.b_i ?_)));(case side2 => exact (Kd.b_n b_Z.out).2.1);rintro e w18 ⟨rfl,hb⟩;refine ⟨_,rfl,?_⟩;replace b_o:=a_e.mk (Kd.a_3 (by (with_reducible repeat (first|apply Kd.a_Q|apply Kd.a_O|apply Kd.a_W));exact b_o.out) hb);replace b_Z:=a_e.mk (Kd.a_3 (by (with_reducible repeat (first|apply Kd.a_Q|apply Kd.a_O|apply Kd.a_W));exact b_Z.out) hb);replace b_V:=a_e.mk (a_l (bup_ b_V.out) hb);replace c_r:=a_e.mk (a_l (bup_ c_r.out) hb);replace c_W:=a_e.mk (a_l (bup_ c_W.out) hb);replace HB:=a_e.mk (a_t (by repeat (first|(with_reducible first|exact HB.out|apply a_g|apply a_f|apply a_h|refine a_d ?_ e_G.out|refine a_d ?_ f_o.out|refine a_d ?_ f_3.out)|exact HB.out)) hb);(try clear hb);(try clear hb2);(try clear hk);(try clear hi);have h_h : w18.cell? ⟨c_S,0,none⟩ = some (.int .i64 a1_0):=(a_a c_r.out 0).trans rfl;have h_i : w18.cell? ⟨c_S,1,none⟩ = some (.slice A1_1 l1_1.length c1_1):=(a_a c_r.out 1).trans rfl;have h_j:=a_b c_r.out 0;have h_k:=a_b c_r.out 1;have u_A:=e_v.out;have u_B:=e_w.out;have i_w : w18.cell? ⟨c_q,0,none⟩ = some (.slice A0_0 l0_0.length c0_0):=(a_a b_V.out 0).trans rfl;have i_x : w18.cell? ⟨c_q,1,none⟩ = some (.int .i64 a0_1):=(a_a b_V.out 1).trans rfl;have i_y:=a_b b_V.out 0;have i_z:=a_b b_V.out 1))
   go_meet
   case rel => exact ⟨_,(decide (a1_0 < a0_1)),(by first|rfl|(simp;done)|(simp [*];done)),H',⟨by first|omega|exact Nat.le_refl _⟩,⟨by (with_reducible repeat (first|apply Kd.a_Q|apply Kd.a_O|apply Kd.a_W));exact Kd.b_X b_o.out (fun _ hk => ⟨hk.1.1.1,⟨hk.1.1.2,⟨hk.1.2,hk.2⟩⟩⟩)⟩,⟨by (with_reducible repeat (first|apply Kd.a_Q|apply Kd.a_O|apply Kd.a_W));exact Kd.b_X b_Z.out (fun _ hk => ⟨hk.1.1.1,⟨hk.1.1.2,⟨hk.1.2,hk.2⟩⟩⟩)⟩,⟨by (with_reducible repeat (first|refine a_j ?_ _|refine a_k ?_|refine a_i ?_ _));exact b_V.out⟩,⟨by (with_reducible repeat (first|refine a_j ?_ _|refine a_k ?_|refine a_i ?_ _));exact c_r.out⟩,⟨by (with_reducible repeat (first|refine a_j ?_ _|refine a_k ?_|refine a_i ?_ _));exact c_W.out⟩,⟨by repeat (first|(with_reducible first|exact HB.out|apply a_g|apply a_f|apply a_h|refine a_d ?_ e_G.out|refine a_d ?_ f_o.out|refine a_d ?_ f_3.out)|exact HB.out)⟩⟩
  replace c14:=Bool.eq_false_iff.mpr c14
  subst c14
  have H1 : (a_v.j0 k true l0_0 a0_1 a1_0 l1_1) = some (r1,r2,r3):=by rw [if_neg (show ¬ (false = true) by decide)] at H;exact H
  clear H
  have H:=H1
  clear H1
  have H':=a_e.mk H
  clear H
  have O_F:=e_4.out
  have O_G:=e_3.out
  have w_E:=e_j.out
  have w_F:=f_p.out
  have k_Y : w12.cell? ⟨c_S,0,none⟩ = some (.int .i64 a1_0):=(a_a c_r.out 0).trans rfl
  have k_Z : w12.cell? ⟨c_S,1,none⟩ = some (.slice A1_1 l1_1.length c1_1):=(a_a c_r.out 1).trans rfl
  have k_0:=a_b c_r.out 0
  have k_1:=a_b c_r.out 1
  go_wp2_with (first|((with_reducible refine a_P (f:=26) rfl ?_);refine b_v (some 13) rfl rfl Try.func26 (by kernel_rfl) rfl #[.agg #[.int .i64 a1_0,.slice A1_1 l1_1.length c1_1]] rfl (by (try simp only [List.map_toArray,List.map_cons,List.map_nil]);first|done|rfl|(simp only [List.length_drop,List.length_take];rfl)) ?_;(with_reducible refine (a_m.calls k a1_0 _ _ l1_1 false _ ?side1 ?side2 A13.out).mono ?_);(case side1 => repeat (first|exact (Kd.b_n b_Z.out).2.2|(with_reducible refine Kd.a_9 ?_ _)|(with_reducible refine Kd.a_8 ?_ _)|(with_reducible refine Kd.b_i ?_)));(case side2 => exact (Kd.b_n b_Z.out).2.1);rintro e w25 ⟨rfl,hb⟩;refine ⟨_,rfl,?_⟩;replace b_o:=a_e.mk (Kd.a_3 (by (with_reducible repeat (first|apply Kd.a_Q|apply Kd.a_O|apply Kd.a_W));exact b_o.out) hb);replace b_Z:=a_e.mk (Kd.a_3 (by (with_reducible repeat (first|apply Kd.a_Q|apply Kd.a_O|apply Kd.a_W));exact b_Z.out) hb);replace b_V:=a_e.mk (a_l (bup_ b_V.out) hb);replace c_r:=a_e.mk (a_l (bup_ c_r.out) hb);replace c_W:=a_e.mk (a_l (bup_ c_W.out) hb);replace HB:=a_e.mk (a_t (by repeat (first|(with_reducible first|exact HB.out|apply a_g|apply a_f|apply a_h|refine a_d ?_ e_G.out|refine a_d ?_ f_o.out|refine a_d ?_ f_3.out)|exact HB.out)) hb);(try clear hb);(try clear hb2);(try clear hk);(try clear hi)))
  go_meet
  case rel => exact ⟨_,(true),(by first|rfl|(simp;done)|(simp [*];done)),H',⟨by first|omega|exact Nat.le_refl _⟩,⟨by (with_reducible repeat (first|apply Kd.a_Q|apply Kd.a_O|apply Kd.a_W));exact Kd.b_X b_o.out (fun _ hk => ⟨hk.1.1.1,⟨hk.1.1.2,⟨hk.1.2,hk.2⟩⟩⟩)⟩,⟨by (with_reducible repeat (first|apply Kd.a_Q|apply Kd.a_O|apply Kd.a_W));exact Kd.b_X b_Z.out (fun _ hk => ⟨hk.1.1.1,⟨hk.1.1.2,⟨hk.1.2,hk.2⟩⟩⟩)⟩,⟨by (with_reducible repeat (first|refine a_j ?_ _|refine a_k ?_|refine a_i ?_ _));exact b_V.out⟩,⟨by (with_reducible repeat (first|refine a_j ?_ _|refine a_k ?_|refine a_i ?_ _));exact c_r.out⟩,⟨by (with_reducible repeat (first|refine a_j ?_ _|refine a_k ?_|refine a_i ?_ _));exact c_W.out⟩,⟨by repeat (first|(with_reducible first|exact HB.out|apply a_g|apply a_f|apply a_h|refine a_d ?_ e_G.out|refine a_d ?_ f_o.out|refine a_d ?_ f_3.out)|exact HB.out)⟩⟩
 case rest =>
  clear HC5
  try clear c1
  try clear c2
  try clear p2
  try clear c4
  try clear c9
  try clear c10
  try clear c12
  try clear c14
  try clear c15
  try clear c16
  try clear c20
  try clear c22
  try clear c23
  try clear g_h
  try clear g_i
  try clear m_Z
  try clear m_0
  try clear h_h
  try clear h_i
  try clear i_w
  try clear i_x
  try clear k_Y
  try clear k_Z
  try clear g_j
  try clear f_D
  try clear m_1
  try clear m_2
  try clear h_j
  try clear h_k
  try clear i_y
  try clear i_z
  try clear k_0
  try clear k_1
  obtain ⟨kq,x21_4,rfl,HA,HJ4,b_1,c_K,b_V,c_r,c_W,HB⟩:=hcut
  cases kq with
  | zero => exact absurd HA.out (by simp [a_v.j0])
  | succ kj4 =>
   have H:=HA.out
   clear HA
   simp only [a_v.j0] at H
   by_cases c26 : x21_4 = true
   ·subst c26
    have H1 : (some (([] : List (S27)),0,2)) = some (r1,r2,r3):=by rw [if_pos rfl] at H;exact H
    clear H
    have H:=H1
    clear H1
    simp only [Option.some.injEq,Prod.mk.injEq] at H
    obtain ⟨rfl,rfl,rfl⟩:=H
    have w_u:=e_w.out
    have w_v:=e_v.out
    have O_H:=f_p.out
    have O_I:=e_j.out
    have m_j : wc.cell? ⟨c_s,0,none⟩ = some (.slice none 0 0):=(a_a c_W.out 0).trans rfl
    have m_k : wc.cell? ⟨c_s,1,none⟩ = some (.int .i64 0):=(a_a c_W.out 1).trans rfl
    have m_l:=a_b c_W.out 0
    have m_m:=a_b c_W.out 1
    go_wp2
    refine bodyPost_ret (c_o rfl _ _ c_s 24 #[.slice none 0 0,.int .i64 0] (0,0) _ rfl (by (with_reducible repeat (first|refine a_j ?_ _|refine a_k ?_|refine a_i ?_ _));refine a_J (cs:=#[.slice none 0 0,.int .i64 0]) ?_ 1 _ rfl;(with_reducible repeat (first|refine a_j ?_ _|refine a_k ?_|refine a_i ?_ _));refine a_J (cs:=#[.slice none 0 0,.int .i64 0]) ?_ 0 _ rfl;(with_reducible repeat (first|refine a_j ?_ _|refine a_k ?_|refine a_i ?_ _));exact c_W.out) Try.underlying24 rfl (by kernel_rfl)) rfl ?_
    exact ⟨_,by first|rfl|(simp [a_w,a_x] <;> rfl)|(simp [*, a_w,a_x] <;> rfl),by first|exact Kd.k_l _ _ _ _ _|exact Kd.i_U _ _ _ _ _|exact Kd.h_O _ _ _ _ _|exact Kd.k_e _ _ _ _ _|exact Kd.i_b _ _ _ _ _,by repeat (first|(with_reducible first|exact HB.out|apply a_g|apply a_f|apply a_h|refine a_d ?_ e_G.out|refine a_d ?_ f_o.out|refine a_d ?_ f_3.out)|exact HB.out)⟩
   replace c26:=Bool.eq_false_iff.mpr c26
   subst c26
   have H1 : (a_v.l0 kj4 ([] : List (S27)) 0 l0_0 a0_1 a1_0 l1_1) = some (r1,r2,r3):=by rw [if_neg (show ¬ (false = true) by decide)] at H;exact H
   clear H
   have H:=H1
   clear H1
   have H':=a_e.mk H
   clear H
   go_wp2
   go_loopg [6,7] kj4 (fun kq v6 v7 w' => ∃ (x6_2 : List (S27)) (x7_2 : Int),v7 = .int .i64 x7_2 ∧ a_e (a_v.l0 kq x6_2 x7_2 l0_0 a0_1 a1_0 l1_1 = some (r1,r2,r3)) ∧ a_e (kq ≤ kj4) ∧ a_e (Kd.N k27 27 w' w.heap.size (fun k_ => ((P0_0_ k_ ∨ P1_1_ k_) ∨ w.heap.size ≤ k_) ∧ k_ ≠ c_q ∧ k_ ≠ c_S ∧ k_ ≠ c_s) v6 x6_2) ∧ a_e (Kd.V k27 27 w' w.heap.size (fun k_ => ((P0_0_ k_ ∨ P1_1_ k_) ∨ w.heap.size ≤ k_) ∧ some k_ ≠ (v6 : Value).ownBlock ∧ k_ ≠ c_q ∧ k_ ≠ c_S ∧ k_ ≠ c_s) (.slice A0_0 l0_0.length c0_0) l0_0) ∧ a_e (Kd.V k65 65 w' w.heap.size (fun k_ => ((P0_0_ k_ ∨ P1_1_ k_) ∨ w.heap.size ≤ k_) ∧ some k_ ≠ (v6 : Value).ownBlock ∧ k_ ≠ c_q ∧ k_ ≠ c_S ∧ k_ ≠ c_s) (.slice A1_1 l1_1.length c1_1) l1_1) ∧ a_e (w'.heap[c_q]? = some (.cells #[(.slice A0_0 l0_0.length c0_0),.int .i64 a0_1] 24 (0,0))) ∧ a_e (w'.heap[c_S]? = some (.cells #[.int .i64 a1_0,(.slice A1_1 l1_1.length c1_1)] 27 (0,0))) ∧ a_e (w'.heap[c_s]? = some (.cells #[(.slice none 0 0),.int .i64 0] 24 (0,0))) ∧ a_e (Below w.heap.size w w'))
   case atStart => exact ⟨(([] : List (S27))),(0),(by first|rfl|(simp;done)|(simp [*];done)),H',⟨Nat.le_refl _⟩,⟨by first|exact Kd.k_l _ _ _ _ _|exact Kd.i_U _ _ _ _ _|exact Kd.h_O _ _ _ _ _|exact Kd.k_e _ _ _ _ _|exact Kd.i_b _ _ _ _ _⟩,⟨by (with_reducible repeat (first|apply Kd.a_Q|apply Kd.a_O|apply Kd.a_W));exact Kd.b_X b_1.out (fun _ hk => ⟨hk.1,⟨(by simp [Value.ownBlock]),⟨hk.2.1,⟨hk.2.2.1,hk.2.2.2⟩⟩⟩⟩)⟩,⟨by (with_reducible repeat (first|apply Kd.a_Q|apply Kd.a_O|apply Kd.a_W));exact Kd.b_X c_K.out (fun _ hk => ⟨hk.1,⟨(by simp [Value.ownBlock]),⟨hk.2.1,⟨hk.2.2.1,hk.2.2.2⟩⟩⟩⟩)⟩,⟨by (with_reducible repeat (first|refine a_j ?_ _|refine a_k ?_|refine a_i ?_ _));exact b_V.out⟩,⟨by (with_reducible repeat (first|refine a_j ?_ _|refine a_k ?_|refine a_i ?_ _));exact c_r.out⟩,⟨by (with_reducible repeat (first|refine a_j ?_ _|refine a_k ?_|refine a_i ?_ _));exact c_W.out⟩,⟨by repeat (first|(with_reducible first|exact HB.out|apply a_g|apply a_f|apply a_h|refine a_d ?_ e_G.out|refine a_d ?_ f_o.out|refine a_d ?_ f_3.out)|exact HB.out)⟩⟩
   case round =>
    clear H'
    try clear c1
    try clear c2
    try clear p2
    try clear c4
    try clear c9
    try clear c10
    try clear c12
    try clear c14
    try clear c15
    try clear c16
    try clear c20
    try clear c22
    try clear c23
    try clear c26
    try clear c27
    try clear c28
    try clear g_h
    try clear g_i
    try clear m_Z
    try clear m_0
    try clear h_h
    try clear h_i
    try clear i_w
    try clear i_x
    try clear k_Y
    try clear k_Z
    try clear m_j
    try clear m_k
    try clear g_j
    try clear f_D
    try clear m_1
    try clear m_2
    try clear h_j
    try clear h_k
    try clear i_y
    try clear i_z
    try clear k_0
    try clear k_1
    try clear m_l
    try clear m_m
    try clear p2
    obtain ⟨x6_2,x7_2,rfl,HA,HK2,HO_6,b_1,c_K,b_V,c_r,c_W,HB⟩:=hrel
    cases gk with
    | zero => exact absurd HA.out (by simp [a_v.l0])
    | succ k2 =>
     have H:=HA.out
     clear HA
     simp only [a_v.l0] at H
     by_cases c30 : x7_2 < (l0_0.length : Int)
     rotate_left
     ·rw [if_neg c30] at H
      have c30b0 : decide (x7_2 < (l0_0.length : Int)) = false:=decide_eq_false c30
      clear c30
      by_cases c44 : (x6_2.length : Int) = 2000
      ·rw [if_pos c44] at H
       have c44b0 : ((x6_2.length : Int) == 2000) = true:=beq_iff_eq.mpr c44
       have c44b1 : ((x6_2.length : Int) != 2000) = false:=bne_eq_false_iff_eq.mpr c44
       clear c44
       simp only [Option.some.injEq,Prod.mk.injEq] at H
       obtain ⟨rfl,rfl,rfl⟩:=H
       have O_J:=e_3.out
       have O_K:=e_4.out
       have O_L:=e_v.out
       have O_M:=e_w.out
       have H_F : wr.cell? ⟨c_q,0,none⟩ = some (.slice A0_0 l0_0.length c0_0):=(a_a b_V.out 0).trans rfl
       have H_G : wr.cell? ⟨c_q,1,none⟩ = some (.int .i64 a0_1):=(a_a b_V.out 1).trans rfl
       have H_H:=a_b b_V.out 0
       have H_I:=a_b b_V.out 1
       obtain ⟨Ao48,co48,eo48⟩:=Kd.f_A HO_6.out
       subst eo48
       have w_A:=f_p.out
       have w_B:=e_j.out
       have p_6 : wr.cell? ⟨c_s,0,none⟩ = some (.slice none 0 0):=(a_a c_W.out 0).trans rfl
       have p_7 : wr.cell? ⟨c_s,1,none⟩ = some (.int .i64 0):=(a_a c_W.out 1).trans rfl
       have p_8:=a_b c_W.out 0
       have p_9:=a_b c_W.out 1
       go_wp2
       refine bodyPost_ret (c_o rfl _ _ c_s 24 #[.slice none 0 0,.int .i64 0] (0,0) _ rfl (by (with_reducible repeat (first|refine a_j ?_ _|refine a_k ?_|refine a_i ?_ _));refine a_J (cs:=#[.slice none 0 0,.int .i64 0]) ?_ 1 _ rfl;(with_reducible repeat (first|refine a_j ?_ _|refine a_k ?_|refine a_i ?_ _));refine a_J (cs:=#[.slice none 0 0,.int .i64 0]) ?_ 0 _ rfl;(with_reducible repeat (first|refine a_j ?_ _|refine a_k ?_|refine a_i ?_ _));exact c_W.out) Try.underlying24 rfl (by kernel_rfl)) rfl ?_
       exact ⟨_,by first|rfl|(simp [a_w,a_x] <;> rfl)|(simp [*, a_w,a_x] <;> rfl),by first|exact Kd.k_l _ _ _ _ _|exact Kd.i_U _ _ _ _ _|exact Kd.h_O _ _ _ _ _|exact Kd.k_e _ _ _ _ _|exact Kd.i_b _ _ _ _ _,by repeat (first|(with_reducible first|exact HB.out|apply a_g|apply a_f|apply a_h|refine a_d ?_ e_G.out|refine a_d ?_ f_o.out|refine a_d ?_ f_3.out)|exact HB.out)⟩
      rw [if_neg c44] at H
      have c44b0 : ((x6_2.length : Int) == 2000) = false:=beq_eq_false_iff_ne.mpr c44
      have c44b1 : ((x6_2.length : Int) != 2000) = true:=bne_iff_ne.mpr c44
      by_cases c51 : x6_2.length < 4398046511104
      rotate_left
      ·rw [if_neg c51] at H
       exact absurd H (by simp)
      rw [if_pos c51] at H
      have LMc51:=a_e.mk c51
      clear c51
      obtain ⟨y235,hy235⟩ : ∃ y_ : List (S27),y_ = (x6_2 ++ [(⟨a1_0,l1_1⟩ : S27)]):=⟨_,rfl⟩
      replace H : (some (y235,a1_0,0)) = some (r1,r2,r3):=by first|(rw [hy235];with_reducible exact H)|(have H2_:=(Option.bind_some _ _).symm.trans H;rw [hy235];with_reducible exact H2_)|(have H2_:=(Option.bind_some _ _).symm.trans H;with_reducible exact H2_)|with_reducible exact H|(rw [hy235];exact H)|exact H
      have Ny235:=a_e.mk hy235
      clear hy235
      simp only [Option.some.injEq,Prod.mk.injEq] at H
      obtain ⟨rfl,rfl,rfl⟩:=H
      have O_N:=e_3.out
      have O_O:=e_4.out
      have O_P:=e_v.out
      have O_Q:=e_w.out
      have q_n : wr.cell? ⟨c_q,0,none⟩ = some (.slice A0_0 l0_0.length c0_0):=(a_a b_V.out 0).trans rfl
      have q_o : wr.cell? ⟨c_q,1,none⟩ = some (.int .i64 a0_1):=(a_a b_V.out 1).trans rfl
      have q_p:=a_b b_V.out 0
      have q_q:=a_b b_V.out 1
      obtain ⟨Ao55,co55,eo55⟩:=Kd.f_A HO_6.out
      subst eo55
      try go_wp2
      replace HO_6:=a_e.mk (Kd.a_Z HO_6.out)
      replace b_1:=a_e.mk (Kd.a_W b_1.out)
      replace c_K:=a_e.mk (Kd.a_W c_K.out)
      replace b_V:=a_e.mk (a_k b_V.out)
      replace c_r:=a_e.mk (a_k c_r.out)
      replace c_W:=a_e.mk (a_k c_W.out)
      replace HB:=a_e.mk (a_h HB.out)
      refine d_H (n:=9) (S:=fun w' => w'.cell? ⟨c_S,0,none⟩ = some (.int .i64 a1_0) ∧ w'.cell? ⟨c_S,1,none⟩ = some (.slice A1_1 l1_1.length c1_1)) (ds:=[]) Z5_ (by kernel_rfl) rfl rfl ⟨(a_a c_r.out 0).trans rfl,(a_a c_r.out 1).trans rfl⟩ (fun hHeld => ?_);refine b_Q a_v.A_e a_v.v_T (fun HT_ HW_ => ?_)
      generalize wr.drew = w56 at HO_6 b_1 c_K b_V c_r c_W HB hHeld ⊢
      refine a_y (i:=0) (N:=some 51) (v:=?_) (a':=?_) Z11_ rfl rfl (a_n HT_.out (by kernel_rfl)) (fun _ _ _ h => h) (Or.inl ⟨by rfl,?_⟩) ?_ ?_
      rotate_left
      ·intro w'
       go_simp
       with_reducible rfl
      rotate_left
      ·simp only [Act.put,sa_,sb_,sc_,a_r,a_s]
       rfl
      refine a_y (i:=4) (N:=some 55) (v:=?_) (a':=?_) Z12_ rfl rfl (a_n HT_.out (by kernel_rfl)) (fun _ _ _ h => h) (Or.inl ⟨by rfl,?_⟩) ?_ ?_
      rotate_left
      ·intro w'
       go_simp
       with_reducible rfl
      rotate_left
      ·simp only [Act.put,sa_,sb_,sc_,a_r,a_s]
       rfl
      refine b_m (i:=1) (N:=some 52) (v:=?_) (a':=?_) Z17_ rfl rfl (a_L HT_.out HW_.out (by kernel_rfl)) (fun _ _ _ h => h) (Or.inl ⟨by rfl,?_⟩) hHeld ?_ ?_
      rotate_left
      ·rintro w' ⟨s0,s1⟩
       go_simp
       with_reducible rfl
      rotate_left
      ·simp only [Act.put,sa_,sb_,sc_,a_r,a_s]
       rfl
      refine b_m (i:=5) (N:=some 56) (v:=?_) (a':=?_) Z18_ rfl rfl (a_L HT_.out HW_.out (by kernel_rfl)) (fun _ _ _ h => h) (Or.inl ⟨by rfl,?_⟩) hHeld ?_ ?_
      rotate_left
      ·rintro w' ⟨s0,s1⟩
       go_simp
       with_reducible rfl
      rotate_left
      ·simp only [Act.put,sa_,sb_,sc_,a_r,a_s]
       rfl
      refine one_ (i:=2) (N:=some 53) Z23_ rfl rfl (c_e HT_.out (by kernel_rfl)) (by decide) (fun K hK => ?_)
      refine n_B (w1:=?_) (v:=?_) (by rfl) rfl ?_ ?_
      rotate_left 2
      ·go_simp
       constructor
       ·rfl
       rfl
      refine hK.out _ _ ⟨(a_a (a_i c_r.out _) 0).trans rfl,(a_a (a_i c_r.out _) 1).trans rfl⟩ (fun hHeld => ?_)
      clear hK K
      refine d_U (a':=?_) ?_ ?_
      rotate_left
      ·show Act.put _ (some 53) _ = _
       simp only [Act.put,sa_,sb_,sc_,a_r,a_s]
       rfl
      refine one_ (i:=3) (N:=some 54) Z36_ rfl rfl (c_e HT_.out (by kernel_rfl)) (by decide) (fun K hK => ?_)
      refine Kd.g_a k27 (w0:=w) w.heap.size (by rfl) (.tmp 51) (.tmp 53) 22 27 (.agg #[(.int .i64 0),(.slice none 0 0)]) 32 rfl Try.underlying22 i_E rfl (by decide) (by omega) (.slice Ao55 x6_2.length co55) x6_2 (⟨a1_0,l1_1⟩ : S27) [.int .i64 a1_0,.slice A1_1 l1_1.length c1_1] (fun k_ => ((P0_0_ k_ ∨ P1_1_ k_) ∨ w.heap.size ≤ k_) ∧ k_ ≠ c_q ∧ k_ ≠ c_S ∧ k_ ≠ c_s) (fun k_ => ((fun k_ => ((P0_0_ k_ ∨ P1_1_ k_) ∨ w.heap.size ≤ k_) ∧ k_ ≠ c_q ∧ k_ ≠ c_S ∧ k_ ≠ c_s)) k_ ∧ some k_ ≠ (.slice Ao55 x6_2.length co55 : Value).ownBlock) rfl rfl ?aP (fun _ hk => hk) ?aF ?aO ?aB ?aS ?aL ?_
      (case aP => exact (k_C _ _ (⟨a1_0,l1_1⟩ : S27) (Kd.b_n (Kd.b_X (ok':=(fun k_ => ((fun k_ => ((P0_0_ k_ ∨ P1_1_ k_) ∨ w.heap.size ≤ k_) ∧ k_ ≠ c_q ∧ k_ ≠ c_S ∧ k_ ≠ c_s)) k_ ∧ some k_ ≠ (.slice Ao55 x6_2.length co55 : Value).ownBlock)) (c_K.out) (fun k_ hk => ⟨⟨hk.1,⟨hk.2.2.1,⟨hk.2.2.2.1,hk.2.2.2.2⟩⟩⟩,hk.2.1⟩))).2.1 (Kd.V_F (Kd.b_X (ok':=(fun k_ => ((fun k_ => ((P0_0_ k_ ∨ P1_1_ k_) ∨ w.heap.size ≤ k_) ∧ k_ ≠ c_q ∧ k_ ≠ c_S ∧ k_ ≠ c_s)) k_ ∧ some k_ ≠ (.slice Ao55 x6_2.length co55 : Value).ownBlock)) (c_K.out) (fun k_ hk => ⟨⟨hk.1,⟨hk.2.2.1,⟨hk.2.2.2.1,hk.2.2.2.2⟩⟩⟩,hk.2.1⟩)))))
      (case aB => exact (by repeat (first|(with_reducible first|exact HB.out|apply a_g|apply a_f|apply a_h|refine a_d ?_ e_G.out|refine a_d ?_ f_o.out|refine a_d ?_ f_3.out)|exact HB.out)))
      (case aF => exact (fun k_ hk => ⟨(.inr (Nat.le_trans (a_p (by repeat (first|(with_reducible first|exact HB.out|apply a_g|apply a_f|apply a_h|refine a_d ?_ e_G.out|refine a_d ?_ f_o.out|refine a_d ?_ f_3.out)|exact HB.out))) hk)),Kd.d_g (g:=c_q) (o:=.cells #[.slice A0_0 l0_0.length c0_0,.int .i64 a0_1] 24 (0,0)) (bup_ b_V.out) k_ hk,Kd.d_g (g:=c_S) (o:=.cells #[.int .i64 a1_0,.slice A1_1 l1_1.length c1_1] 27 (0,0)) (bup_ c_r.out) k_ hk,Kd.d_g (g:=c_s) (o:=.cells #[.slice none 0 0,.int .i64 0] 24 (0,0)) (bup_ c_W.out) k_ hk⟩))
      (case aO => exact (by (with_reducible repeat (first|apply Kd.a_R|apply Kd.a_S|apply Kd.a_Z));exact HO_6.out))
      (case aS => exact (a_p (by repeat (first|(with_reducible first|exact HB.out|apply a_g|apply a_f|apply a_h|refine a_d ?_ e_G.out|refine a_d ?_ f_o.out|refine a_d ?_ f_3.out)|exact HB.out))))
      (case aL => have:=LMc51.out;omega)
      intro v236 w57 ho hb hg hat
      rw [← Ny235.out] at ho
      have w_G:=a_e.mk (ho)
      replace b_1:=a_e.mk (Kd.e_S (ok:=(fun k_ => ((P0_0_ k_ ∨ P1_1_ k_) ∨ w.heap.size ≤ k_) ∧ k_ ≠ c_q ∧ k_ ≠ c_S ∧ k_ ≠ c_s)) (by (with_reducible repeat (first|apply Kd.a_Q|apply Kd.a_O|apply Kd.a_W));exact Kd.b_X b_1.out (fun _ hk => ⟨⟨hk.1,⟨hk.2.2.1,⟨hk.2.2.2.1,hk.2.2.2.2⟩⟩⟩,hk.2.1⟩)) hg hat)
      replace c_K:=a_e.mk (Kd.e_S (ok:=(fun k_ => ((P0_0_ k_ ∨ P1_1_ k_) ∨ w.heap.size ≤ k_) ∧ k_ ≠ c_q ∧ k_ ≠ c_S ∧ k_ ≠ c_s)) (by (with_reducible repeat (first|apply Kd.a_Q|apply Kd.a_O|apply Kd.a_W));exact Kd.b_X c_K.out (fun _ hk => ⟨⟨hk.1,⟨hk.2.2.1,⟨hk.2.2.2.1,hk.2.2.2.2⟩⟩⟩,hk.2.1⟩)) hg hat)
      replace b_V:=a_e.mk (c_n (g:=c_q) (o:=.cells #[.slice A0_0 l0_0.length c0_0,.int .i64 a0_1] 24 (0,0)) (bup_ b_V.out) hg (Kd.N_ne HO_6.out b_V.out (by decide)))
      replace c_r:=a_e.mk (c_n (g:=c_S) (o:=.cells #[.int .i64 a1_0,.slice A1_1 l1_1.length c1_1] 27 (0,0)) (bup_ c_r.out) hg (Kd.n_z HO_6.out (fun _ hk => hk.2.2.1)))
      replace c_W:=a_e.mk (c_n (g:=c_s) (o:=.cells #[.slice none 0 0,.int .i64 0] 24 (0,0)) (bup_ c_W.out) hg (Kd.N_ne HO_6.out c_W.out (by decide)))
      replace HB:=a_e.mk (hb)
      clear HO_6 ho hb hg hat
      obtain ⟨Ao58,co58,eo58⟩:=Kd.f_A w_G.out
      (first|subst eo58|(injection eo58 with f1_ f2_ f3_;have f4_:=f1_.symm;have f5_:=f3_.symm;clear f1_ f2_ f3_;subst f4_;subst f5_))
      refine hK.out _ _ ⟨(a_a c_r.out 0).trans rfl,(a_a c_r.out 1).trans rfl⟩ (fun hHeld => ?_)
      clear hK K
      refine d_U (a':=?_) ?_ ?_
      rotate_left
      ·show Act.put _ (some 54) _ = _
       simp only [Act.put,sa_,sb_,sc_,a_r,a_s]
       rfl
      refine a_y (i:=6) (N:=some 57) (v:=?_) (a':=?_) Z42_ rfl rfl (a_n HT_.out (by kernel_rfl)) (fun _ _ _ h => h) (Or.inl ⟨by rfl,?_⟩) ?_ ?_
      rotate_left
      ·intro w'
       go_simp
       with_reducible rfl
      rotate_left
      ·simp only [Act.put,sa_,sb_,sc_,a_r,a_s]
       rfl
      refine one_ (i:=7) (N:=none) Z51_ rfl rfl (c_e HT_.out (by kernel_rfl)) (by decide) (fun K hK => ?_)
      have hs59 : w57.cell? ⟨c_s,0,none⟩ = some (.slice none 0 0):=(a_a c_W.out 0).trans rfl
      have hfs59:=a_b c_W.out 0
      have hns59_0:=e_v.out
      have hns59_1:=e_j.out
      have hms59_0:=e_w.out
      have hms59_1:=f_p.out
      have hs60 : w57.cell? ⟨c_s,1,none⟩ = some (.int .i64 0):=(a_a c_W.out 1).trans rfl
      have hfs60:=a_b c_W.out 1
      have hns60_0:=e_v.out
      have hns60_1:=e_j.out
      have hms60_0:=e_w.out
      have hms60_1:=f_p.out
      refine q_P (w1:=?_) (by rfl) rfl ?_ ?_
      rotate_left
      ·go_simp
       rfl
      refine hK.out _ _ ⟨((cell_far (p:=⟨c_s,_,none⟩) e_j.out _).trans (((cell_far (p:=⟨c_s,_,none⟩) e_j.out _).trans (hHeld.1)))),((cell_far (p:=⟨c_s,_,none⟩) e_j.out _).trans (((cell_far (p:=⟨c_s,_,none⟩) e_j.out _).trans (hHeld.2))))⟩ (fun hHeld => ?_)
      clear hK K
      refine a_y (i:=8) (N:=some 5) (v:=?_) (a':=?_) o_y rfl rfl (a_n HT_.out (by kernel_rfl)) (fun _ _ _ h => h) (Or.inl ⟨by rfl,?_⟩) ?_ ?_
      rotate_left
      ·intro w'
       go_simp
       with_reducible rfl
      rotate_left
      ·simp only [Act.put,sa_,sb_,sc_,a_r,a_s]
       rfl
      refine e_T (c_u HT_.out (by kernel_rfl)) ?_
      try go_wp2
      refine bodyPost_ret (c_o rfl _ _ c_s 24 #[.slice Ao58 y235.length co58,.int .i64 a1_0] (0,0) _ rfl (by (with_reducible repeat (first|refine a_j ?_ _|refine a_k ?_|refine a_i ?_ _));refine a_J (cs:=#[.slice Ao58 y235.length co58,.int .i64 0]) ?_ 1 _ rfl;(with_reducible repeat (first|refine a_j ?_ _|refine a_k ?_|refine a_i ?_ _));refine a_J (cs:=#[.slice none 0 0,.int .i64 0]) ?_ 0 _ rfl;(with_reducible repeat (first|refine a_j ?_ _|refine a_k ?_|refine a_i ?_ _));exact c_W.out) Try.underlying24 rfl (by kernel_rfl)) rfl ?_
      exact ⟨_,by first|rfl|(simp [a_w,a_x] <;> rfl)|(simp [*, a_w,a_x] <;> rfl),by (with_reducible repeat (first|apply Kd.a_R|apply Kd.a_S|apply Kd.a_Z));exact Kd.b_P (Kd.d_E (p:=⟨c_s,1,none⟩) (Kd.d_E (p:=⟨c_s,0,none⟩) (Kd.b_P w_G.out (fun k_ hk => (⟨hk,hk.2.2.2⟩ : _ ∧ k_ ≠ c_s))) (fun _ hk => hk.2) (.slice Ao58 y235.length co58)) (fun _ hk => hk.2) (.int .i64 a1_0)) (fun _ hk => hk.1.1),by repeat (first|(with_reducible first|exact HB.out|apply a_g|apply a_f|apply a_h|refine a_d ?_ e_G.out|refine a_d ?_ f_o.out|refine a_d ?_ f_3.out)|exact HB.out)⟩
     rw [if_pos c30] at H
     have c30b0 : decide (x7_2 < (l0_0.length : Int)) = true:=decide_eq_true c30
     clear c30
     by_cases c31 : 0 ≤ x7_2
     rotate_left
     ·rw [if_neg c31] at H
      exact absurd H (by simp)
     rw [if_pos c31] at H
     have c31b0 : decide (0 ≤ x7_2) = true:=decide_eq_true c31
     clear c31
     by_cases c32 : ((a_o l0_0 x7_2).f0) = a1_0
     ·rw [if_pos c32] at H
      have c32b0 : (((a_o l0_0 x7_2).f0) == a1_0) = true:=beq_iff_eq.mpr c32
      have c32b1 : (((a_o l0_0 x7_2).f0) != a1_0) = false:=bne_eq_false_iff_eq.mpr c32
      clear c32
      have H':=a_e.mk H
      clear H
      have O_R:=e_3.out
      have O_S:=e_4.out
      have H_J:=e_v.out
      have H_K:=e_w.out
      have l_e : wr.cell? ⟨c_q,0,none⟩ = some (.slice A0_0 l0_0.length c0_0):=(a_a b_V.out 0).trans rfl
      have l_f : wr.cell? ⟨c_q,1,none⟩ = some (.int .i64 a0_1):=(a_a b_V.out 1).trans rfl
      have l_g:=a_b b_V.out 0
      have l_h:=a_b b_V.out 1
      try go_wp2
      replace HO_6:=a_e.mk (Kd.a_Z HO_6.out)
      replace b_1:=a_e.mk (Kd.a_W b_1.out)
      replace c_K:=a_e.mk (Kd.a_W c_K.out)
      replace b_V:=a_e.mk (a_k b_V.out)
      replace c_r:=a_e.mk (a_k c_r.out)
      replace c_W:=a_e.mk (a_k c_W.out)
      replace HB:=a_e.mk (a_h HB.out)
      have p230 : 0 ≤ (x7_2 : Int):=of_decide_eq_true (by first|(with_reducible assumption)|assumption)
      have q230 : x7_2 < (l0_0.length : Int):=of_decide_eq_true (by first|(with_reducible assumption)|assumption)
      obtain ⟨ad230,A230_1,c230_1,e230,j_O,g_J,j_P,j_Q⟩:=c_t (Kd.b_n b_1.out).2.2 x7_2 p230 q230
      cases e230
      obtain ⟨ce230,hce230,hMe230,hcc230⟩:=Kd.s_A b_1.out z27 x7_2 p230 (by first|exact q230|exact of_decide_eq_true (by first|(with_reducible assumption)|assumption)|(have e_:=(Kd.b_n b_1.out).1;omega))
      obtain ⟨ua230_1,uc230_1,rfl,ul230_1,ge230_1⟩:=h_N hMe230
      have hv230_1:=hcc230 1 _ rfl
      rw [c_8 _ _ 1 (by omega)] at hv230_1
      replace hv230_1:=Option.some.inj (hv230_1.symm.trans g_J)
      injection hv230_1 with hva_ hvn_ hvc_
      rw [hva_] at ge230_1
      rw [hvc_] at ul230_1
      have HL230_1:=a_e.mk (show Kd.V k65 65 _ w.heap.size _ _ ((a_o l0_0 x7_2).f1) from Kd.V_mk ul230_1 ge230_1)
      clear hva_ hvn_ hvc_ ge230_1 ul230_1 hcc230 hce230
      have n_e:=a_e.mk j_Q
      have u_C:=a_e.mk j_P
      clear j_Q j_P
      replace p230:=eq_true p230
      replace q230:=eq_true q230
      refine d_H (n:=9) (S:=fun w' => w'.cell? ⟨c_q,0,none⟩ = some (.slice (some ad230) l0_0.length c0_0) ∧ w'.cell? ⟨c_q,1,none⟩ = some (.int .i64 a0_1) ∧ w'.cell? ⟨c_S,0,none⟩ = some (.int .i64 a1_0) ∧ w'.cell? ⟨c_S,1,none⟩ = some (.slice A1_1 l1_1.length c1_1) ∧ w'.cell? (ad230.add ((x7_2).toNat * 2)) = some (.int .i64 ((a_o l0_0 x7_2).f0)) ∧ w'.cell? ⟨(ad230.add ((x7_2).toNat * 2)).block,(ad230.add ((x7_2).toNat * 2)).off + 1,none⟩ = some (.slice A230_1 ((a_o l0_0 x7_2).f1).length c230_1)) (ds:=[]) Z5_ (by kernel_rfl) rfl rfl ⟨(a_a b_V.out 0).trans rfl,(a_a b_V.out 1).trans rfl,(a_a c_r.out 0).trans rfl,(a_a c_r.out 1).trans rfl,j_O,g_J⟩ (fun hHeld => ?_);refine b_Q a_v.tab9 a_v.v_P (fun HT_ HW_ => ?_)
      generalize wr.drew = w36 at HO_6 b_1 c_K b_V c_r c_W HB HL230_1 n_e j_O g_J hHeld ⊢
      refine a_y (i:=0) (N:=some 30) (v:=?_) (a':=?_) Z11_ rfl rfl (a_n HT_.out (by kernel_rfl)) (fun _ _ _ h => h) (Or.inl ⟨by rfl,?_⟩) ?_ ?_
      rotate_left
      ·intro w'
       go_simp
       with_reducible rfl
      rotate_left
      ·simp only [Act.put,sa_,sb_,sc_,a_r,a_s]
       rfl
      refine a_y (i:=2) (N:=some 32) (v:=?_) (a':=?_) #[T_,F_,T_,F_,F_,F_,F_,F_,F_] rfl rfl (a_n HT_.out (by kernel_rfl)) (fun _ _ _ h => h) (Or.inl ⟨by rfl,?_⟩) ?_ ?_
      rotate_left
      ·intro w'
       go_simp
       with_reducible rfl
      rotate_left
      ·simp only [Act.put,sa_,sb_,sc_,a_r,a_s]
       rfl
      refine a_y (i:=6) (N:=some 36) (v:=?_) (a':=?_) #[T_,F_,T_,F_,F_,F_,T_,F_,F_] rfl rfl (a_n HT_.out (by kernel_rfl)) (fun _ _ _ h => h) (Or.inl ⟨by rfl,?_⟩) ?_ ?_
      rotate_left
      ·intro w'
       go_simp
       with_reducible rfl
      rotate_left
      ·simp only [Act.put,sa_,sb_,sc_,a_r,a_s]
       rfl
      refine b_m (i:=1) (N:=some 31) (v:=?_) (a':=?_) #[T_,T_,T_,F_,F_,F_,T_,F_,F_] rfl rfl (a_L HT_.out HW_.out (by kernel_rfl)) (fun _ _ _ h => h) (Or.inl ⟨by rfl,?_⟩) hHeld ?_ ?_
      rotate_left
      ·rintro w' ⟨s0,s1,s2,s3,s4,s5⟩
       go_simp
       with_reducible rfl
      rotate_left
      ·simp only [Act.put,sa_,sb_,sc_,a_r,a_s]
       rfl
      refine a_y (i:=3) (N:=some 33) (v:=?_) (a':=?_) #[T_,T_,T_,T_,F_,F_,T_,F_,F_] rfl rfl (a_n HT_.out (by kernel_rfl)) (fun _ _ _ h => h) (Or.inl ⟨by rfl,?_⟩) ?_ ?_
      rotate_left
      ·intro w'
       go_simp
       with_reducible rfl
      rotate_left
      ·simp only [Act.put,sa_,sb_,sc_,a_r,a_s]
       rfl
      refine a_y (i:=4) (N:=some 34) (v:=?_) (a':=?_) #[T_,T_,T_,T_,T_,F_,T_,F_,F_] rfl rfl (a_n HT_.out (by kernel_rfl)) (fun _ _ _ h => h) (Or.inl ⟨by rfl,?_⟩) ?_ ?_
      rotate_left
      ·intro w'
       go_simp
       with_reducible rfl
      rotate_left
      ·simp only [Act.put,sa_,sb_,sc_,a_r,a_s]
       rfl
      refine b_m (i:=5) (N:=some 35) (v:=?_) (a':=?_) Z42_ rfl rfl (a_L HT_.out HW_.out (by kernel_rfl)) (fun _ _ _ h => h) (Or.inl ⟨by rfl,?_⟩) hHeld ?_ ?_
      rotate_left
      ·rintro w' ⟨s0,s1,s2,s3,s4,s5⟩
       go_simp
       with_reducible rfl
      rotate_left
      ·simp only [Act.put,sa_,sb_,sc_,a_r,a_s]
       rfl
      refine b_m (i:=7) (N:=some 37) (v:=?_) (a':=?_) Z51_ rfl rfl (a_L HT_.out HW_.out (by kernel_rfl)) (fun _ _ _ h => h) (Or.inl ⟨by rfl,?_⟩) hHeld ?_ ?_
      rotate_left
      ·rintro w' ⟨s0,s1,s2,s3,s4,s5⟩
       go_simp
       with_reducible rfl
      rotate_left
      ·simp only [Act.put,sa_,sb_,sc_,a_r,a_s]
       rfl
      refine a_y (i:=8) (N:=some 38) (v:=?_) (a':=?_) o_y rfl rfl (a_n HT_.out (by kernel_rfl)) (fun _ _ _ h => h) (Or.inl ⟨by rfl,?_⟩) ?_ ?_
      rotate_left
      ·intro w'
       go_simp
       with_reducible rfl
      rotate_left
      ·simp only [Act.put,sa_,sb_,sc_,a_r,a_s]
       rfl
      refine e_T (c_u HT_.out (by kernel_rfl)) ?_
      try go_wp2
      go_roundg k2
      case measure => have:=HJ4.out;have:=HK2.out;omega
      case rel => exact ⟨(x6_2),(wrap64 (x7_2 + 1)),(by first|rfl|(simp;done)|(simp [*];done)),H',⟨by have:=HJ4.out;have:=HK2.out;omega⟩,⟨by (with_reducible repeat (first|apply Kd.a_R|apply Kd.a_S|apply Kd.a_Z));exact HO_6.out⟩,⟨by (with_reducible repeat (first|apply Kd.a_Q|apply Kd.a_O|apply Kd.a_W));exact b_1.out⟩,⟨by (with_reducible repeat (first|apply Kd.a_Q|apply Kd.a_O|apply Kd.a_W));exact c_K.out⟩,⟨by (with_reducible repeat (first|refine a_j ?_ _|refine a_k ?_|refine a_i ?_ _));exact b_V.out⟩,⟨by (with_reducible repeat (first|refine a_j ?_ _|refine a_k ?_|refine a_i ?_ _));exact c_r.out⟩,⟨by (with_reducible repeat (first|refine a_j ?_ _|refine a_k ?_|refine a_i ?_ _));exact c_W.out⟩,⟨by repeat (first|(with_reducible first|exact HB.out|apply a_g|apply a_f|apply a_h|refine a_d ?_ e_G.out|refine a_d ?_ f_o.out|refine a_d ?_ f_3.out)|exact HB.out)⟩⟩
     rw [if_neg c32] at H
     have c32b0 : (((a_o l0_0 x7_2).f0) == a1_0) = false:=beq_eq_false_iff_ne.mpr c32
     have c32b1 : (((a_o l0_0 x7_2).f0) != a1_0) = true:=bne_iff_ne.mpr c32
     by_cases c37 : x6_2.length < 4398046511104
     rotate_left
     ·rw [if_neg c37] at H
      exact absurd H (by simp)
     rw [if_pos c37] at H
     have LMc37:=a_e.mk c37
     clear c37
     obtain ⟨y232,hy232⟩ : ∃ y_ : List (S27),y_ = (x6_2 ++ [(⟨(a_o l0_0 x7_2).f0,(a_o l0_0 x7_2).f1⟩ : S27)]):=⟨_,rfl⟩
     replace H : (a_v.l0 k2 y232 (wrap64 (x7_2 + 1)) l0_0 a0_1 a1_0 l1_1) = some (r1,r2,r3):=by first|(rw [hy232];with_reducible exact H)|(have H2_:=(Option.bind_some _ _).symm.trans H;rw [hy232];with_reducible exact H2_)|(have H2_:=(Option.bind_some _ _).symm.trans H;with_reducible exact H2_)|with_reducible exact H|(rw [hy232];exact H)|exact H
     have Ny232:=a_e.mk hy232
     clear hy232
     have H':=a_e.mk H
     clear H
     have H_L:=e_3.out
     have H_M:=e_4.out
     have H_N:=e_v.out
     have H_O:=e_w.out
     have t_9 : wr.cell? ⟨c_q,0,none⟩ = some (.slice A0_0 l0_0.length c0_0):=(a_a b_V.out 0).trans rfl
     have u_a : wr.cell? ⟨c_q,1,none⟩ = some (.int .i64 a0_1):=(a_a b_V.out 1).trans rfl
     have u_b:=a_b b_V.out 0
     have u_d:=a_b b_V.out 1
     try go_wp2
     replace HO_6:=a_e.mk (Kd.a_Z HO_6.out)
     replace b_1:=a_e.mk (Kd.a_W b_1.out)
     replace c_K:=a_e.mk (Kd.a_W c_K.out)
     replace b_V:=a_e.mk (a_k b_V.out)
     replace c_r:=a_e.mk (a_k c_r.out)
     replace c_W:=a_e.mk (a_k c_W.out)
     replace HB:=a_e.mk (a_h HB.out)
     have p230 : 0 ≤ (x7_2 : Int):=of_decide_eq_true (by first|(with_reducible assumption)|assumption)
     have q230 : x7_2 < (l0_0.length : Int):=of_decide_eq_true (by first|(with_reducible assumption)|assumption)
     obtain ⟨ad230,A230_1,c230_1,e230,j_O,g_J,j_P,j_Q⟩:=c_t (Kd.b_n b_1.out).2.2 x7_2 p230 q230
     cases e230
     obtain ⟨ce230,hce230,hMe230,hcc230⟩:=Kd.s_A b_1.out z27 x7_2 p230 (by first|exact q230|exact of_decide_eq_true (by first|(with_reducible assumption)|assumption)|(have e_:=(Kd.b_n b_1.out).1;omega))
     obtain ⟨ua230_1,uc230_1,rfl,ul230_1,ge230_1⟩:=h_N hMe230
     have hv230_1:=hcc230 1 _ rfl
     rw [c_8 _ _ 1 (by omega)] at hv230_1
     replace hv230_1:=Option.some.inj (hv230_1.symm.trans g_J)
     injection hv230_1 with hva_ hvn_ hvc_
     rw [hva_] at ge230_1
     rw [hvc_] at ul230_1
     have HL230_1:=a_e.mk (show Kd.V k65 65 _ w.heap.size _ _ ((a_o l0_0 x7_2).f1) from Kd.V_mk ul230_1 ge230_1)
     clear hva_ hvn_ hvc_ ge230_1 ul230_1 hcc230 hce230
     have n_e:=a_e.mk j_Q
     have u_C:=a_e.mk j_P
     clear j_Q j_P
     replace p230:=eq_true p230
     replace q230:=eq_true q230
     refine d_H (n:=9) (S:=fun w' => w'.cell? ⟨c_q,0,none⟩ = some (.slice (some ad230) l0_0.length c0_0) ∧ w'.cell? ⟨c_q,1,none⟩ = some (.int .i64 a0_1) ∧ w'.cell? ⟨c_S,0,none⟩ = some (.int .i64 a1_0) ∧ w'.cell? ⟨c_S,1,none⟩ = some (.slice A1_1 l1_1.length c1_1) ∧ w'.cell? (ad230.add ((x7_2).toNat * 2)) = some (.int .i64 ((a_o l0_0 x7_2).f0)) ∧ w'.cell? ⟨(ad230.add ((x7_2).toNat * 2)).block,(ad230.add ((x7_2).toNat * 2)).off + 1,none⟩ = some (.slice A230_1 ((a_o l0_0 x7_2).f1).length c230_1)) (ds:=[]) Z5_ (by kernel_rfl) rfl rfl ⟨(a_a b_V.out 0).trans rfl,(a_a b_V.out 1).trans rfl,(a_a c_r.out 0).trans rfl,(a_a c_r.out 1).trans rfl,j_O,g_J⟩ (fun hHeld => ?_);refine b_Q a_v.tab9 a_v.v_P (fun HT_ HW_ => ?_)
     generalize wr.drew = w41 at HO_6 b_1 c_K b_V c_r c_W HB HL230_1 n_e j_O g_J hHeld ⊢
     refine a_y (i:=0) (N:=some 30) (v:=?_) (a':=?_) Z11_ rfl rfl (a_n HT_.out (by kernel_rfl)) (fun _ _ _ h => h) (Or.inl ⟨by rfl,?_⟩) ?_ ?_
     rotate_left
     ·intro w'
      go_simp
      with_reducible rfl
     rotate_left
     ·simp only [Act.put,sa_,sb_,sc_,a_r,a_s]
      rfl
     refine a_y (i:=2) (N:=some 32) (v:=?_) (a':=?_) #[T_,F_,T_,F_,F_,F_,F_,F_,F_] rfl rfl (a_n HT_.out (by kernel_rfl)) (fun _ _ _ h => h) (Or.inl ⟨by rfl,?_⟩) ?_ ?_
     rotate_left
     ·intro w'
      go_simp
      with_reducible rfl
     rotate_left
     ·simp only [Act.put,sa_,sb_,sc_,a_r,a_s]
      rfl
     refine a_y (i:=6) (N:=some 36) (v:=?_) (a':=?_) #[T_,F_,T_,F_,F_,F_,T_,F_,F_] rfl rfl (a_n HT_.out (by kernel_rfl)) (fun _ _ _ h => h) (Or.inl ⟨by rfl,?_⟩) ?_ ?_
     rotate_left
     ·intro w'
      go_simp
      with_reducible rfl
     rotate_left
     ·simp only [Act.put,sa_,sb_,sc_,a_r,a_s]
      rfl
     refine b_m (i:=1) (N:=some 31) (v:=?_) (a':=?_) #[T_,T_,T_,F_,F_,F_,T_,F_,F_] rfl rfl (a_L HT_.out HW_.out (by kernel_rfl)) (fun _ _ _ h => h) (Or.inl ⟨by rfl,?_⟩) hHeld ?_ ?_
     rotate_left
     ·rintro w' ⟨s0,s1,s2,s3,s4,s5⟩
      go_simp
      with_reducible rfl
     rotate_left
     ·simp only [Act.put,sa_,sb_,sc_,a_r,a_s]
      rfl
     refine a_y (i:=3) (N:=some 33) (v:=?_) (a':=?_) #[T_,T_,T_,T_,F_,F_,T_,F_,F_] rfl rfl (a_n HT_.out (by kernel_rfl)) (fun _ _ _ h => h) (Or.inl ⟨by rfl,?_⟩) ?_ ?_
     rotate_left
     ·intro w'
      go_simp
      with_reducible rfl
     rotate_left
     ·simp only [Act.put,sa_,sb_,sc_,a_r,a_s]
      rfl
     refine a_y (i:=4) (N:=some 34) (v:=?_) (a':=?_) #[T_,T_,T_,T_,T_,F_,T_,F_,F_] rfl rfl (a_n HT_.out (by kernel_rfl)) (fun _ _ _ h => h) (Or.inl ⟨by rfl,?_⟩) ?_ ?_
     rotate_left
     ·intro w'
      go_simp
      with_reducible rfl
     rotate_left
     ·simp only [Act.put,sa_,sb_,sc_,a_r,a_s]
      rfl
     refine b_m (i:=5) (N:=some 35) (v:=?_) (a':=?_) Z42_ rfl rfl (a_L HT_.out HW_.out (by kernel_rfl)) (fun _ _ _ h => h) (Or.inl ⟨by rfl,?_⟩) hHeld ?_ ?_
     rotate_left
     ·rintro w' ⟨s0,s1,s2,s3,s4,s5⟩
      go_simp
      with_reducible rfl
     rotate_left
     ·simp only [Act.put,sa_,sb_,sc_,a_r,a_s]
      rfl
     refine b_m (i:=7) (N:=some 37) (v:=?_) (a':=?_) Z51_ rfl rfl (a_L HT_.out HW_.out (by kernel_rfl)) (fun _ _ _ h => h) (Or.inl ⟨by rfl,?_⟩) hHeld ?_ ?_
     rotate_left
     ·rintro w' ⟨s0,s1,s2,s3,s4,s5⟩
      go_simp
      with_reducible rfl
     rotate_left
     ·simp only [Act.put,sa_,sb_,sc_,a_r,a_s]
      rfl
     refine a_y (i:=8) (N:=some 38) (v:=?_) (a':=?_) o_y rfl rfl (a_n HT_.out (by kernel_rfl)) (fun _ _ _ h => h) (Or.inl ⟨by rfl,?_⟩) ?_ ?_
     rotate_left
     ·intro w'
      go_simp
      with_reducible rfl
     rotate_left
     ·simp only [Act.put,sa_,sb_,sc_,a_r,a_s]
      rfl
     refine e_T (c_u HT_.out (by kernel_rfl)) ?_
     have j_t : w41.cell? ⟨c_q,0,none⟩ = some (.slice (some ad230) l0_0.length c0_0):=(a_a b_V.out 0).trans rfl
     have j_u : w41.cell? ⟨c_q,1,none⟩ = some (.int .i64 a0_1):=(a_a b_V.out 1).trans rfl
     have j_v:=a_b b_V.out 0
     have j_w:=a_b b_V.out 1
     have p231 : 0 ≤ (x7_2 : Int):=of_decide_eq_true (by first|(with_reducible assumption)|assumption)
     have q231 : x7_2 < (l0_0.length : Int):=of_decide_eq_true (by first|(with_reducible assumption)|assumption)
     obtain ⟨ad231,A231_1,c231_1,e231,H_P,q_r,q_s,q_t⟩:=c_t (Kd.b_n b_1.out).2.2 x7_2 p231 q231
     obtain rfl : ad230 = ad231:=(by injection e231)
     obtain ⟨ce231,hce231,hMe231,hcc231⟩:=Kd.s_A b_1.out z27 x7_2 p231 (by first|exact q231|exact of_decide_eq_true (by first|(with_reducible assumption)|assumption)|(have e_:=(Kd.b_n b_1.out).1;omega))
     obtain ⟨ua231_1,uc231_1,rfl,ul231_1,ge231_1⟩:=h_N hMe231
     have hv231_1:=hcc231 1 _ rfl
     rw [c_8 _ _ 1 (by omega)] at hv231_1
     replace hv231_1:=Option.some.inj (hv231_1.symm.trans q_r)
     injection hv231_1 with hva_ hvn_ hvc_
     rw [hva_] at ge231_1
     rw [hvc_] at ul231_1
     have HL231_1:=a_e.mk (show Kd.V k65 65 _ w.heap.size _ _ ((a_o l0_0 x7_2).f1) from Kd.V_mk ul231_1 ge231_1)
     clear hva_ hvn_ hvc_ ge231_1 ul231_1 hcc231 hce231
     have H_Q:=a_e.mk q_t
     have H_R:=a_e.mk q_s
     clear q_t q_s
     replace p231:=eq_true p231
     replace q231:=eq_true q231
     have ea_:=Option.some.inj (g_J.symm.trans q_r)
     injection ea_ with ea_ en_ ec_
     subst ea_
     subst ec_
     clear en_
     try go_wp2_with (first|((with_reducible refine i_G (b:=.append) (xs:=#[.tmp 39,.tmp 45]) rfl ?_);at_builtin;refine Kd.q_0 k27 (w0:=w) w.heap.size rfl (.tmp 39) (.tmp 45) 22 27 (.agg #[(.int .i64 0),(.slice none 0 0)]) 32 rfl Try.underlying22 i_E rfl (by decide) (by omega) u6 x6_2 (⟨(a_o l0_0 x7_2).f0,(a_o l0_0 x7_2).f1⟩ : S27) [.int .i64 ((a_o l0_0 x7_2).f0),.slice A230_1 ((a_o l0_0 x7_2).f1).length c230_1] (fun k_ => ((P0_0_ k_ ∨ P1_1_ k_) ∨ w.heap.size ≤ k_) ∧ k_ ≠ c_q ∧ k_ ≠ c_S ∧ k_ ≠ c_s) (fun k_ => ((fun k_ => ((P0_0_ k_ ∨ P1_1_ k_) ∨ w.heap.size ≤ k_) ∧ k_ ≠ c_q ∧ k_ ≠ c_S ∧ k_ ≠ c_s)) k_ ∧ some k_ ≠ (u6 : Value).ownBlock) rfl rfl ?aP (fun _ hk => hk) ?aF ?aO ?aB ?aS ?aL ?_;(case aP => exact (k_C _ _ (⟨(a_o l0_0 x7_2).f0,(a_o l0_0 x7_2).f1⟩ : S27) (Kd.b_n (Kd.b_X (ok':=(fun k_ => ((fun k_ => ((P0_0_ k_ ∨ P1_1_ k_) ∨ w.heap.size ≤ k_) ∧ k_ ≠ c_q ∧ k_ ≠ c_S ∧ k_ ≠ c_s)) k_ ∧ some k_ ≠ (u6 : Value).ownBlock)) (HL231_1.out) (fun k_ hk => ⟨⟨hk.1,⟨hk.2.2.1,⟨hk.2.2.2.1,hk.2.2.2.2⟩⟩⟩,hk.2.1⟩))).2.1 (Kd.V_F (Kd.b_X (ok':=(fun k_ => ((fun k_ => ((P0_0_ k_ ∨ P1_1_ k_) ∨ w.heap.size ≤ k_) ∧ k_ ≠ c_q ∧ k_ ≠ c_S ∧ k_ ≠ c_s)) k_ ∧ some k_ ≠ (u6 : Value).ownBlock)) (HL231_1.out) (fun k_ hk => ⟨⟨hk.1,⟨hk.2.2.1,⟨hk.2.2.2.1,hk.2.2.2.2⟩⟩⟩,hk.2.1⟩)))));(case aB => exact (by repeat (first|(with_reducible first|exact HB.out|apply a_g|apply a_f|apply a_h|refine a_d ?_ e_G.out|refine a_d ?_ f_o.out|refine a_d ?_ f_3.out)|exact HB.out)));(case aF => exact (fun k_ hk => ⟨(.inr (Nat.le_trans (a_p (by repeat (first|(with_reducible first|exact HB.out|apply a_g|apply a_f|apply a_h|refine a_d ?_ e_G.out|refine a_d ?_ f_o.out|refine a_d ?_ f_3.out)|exact HB.out))) hk)),Kd.d_g (g:=c_q) (o:=.cells #[.slice (some ad230) l0_0.length c0_0,.int .i64 a0_1] 24 (0,0)) (bup_ b_V.out) k_ hk,Kd.d_g (g:=c_S) (o:=.cells #[.int .i64 a1_0,.slice A1_1 l1_1.length c1_1] 27 (0,0)) (bup_ c_r.out) k_ hk,Kd.d_g (g:=c_s) (o:=.cells #[.slice none 0 0,.int .i64 0] 24 (0,0)) (bup_ c_W.out) k_ hk⟩));(case aO => exact (by (with_reducible repeat (first|apply Kd.a_R|apply Kd.a_S|apply Kd.a_Z));exact HO_6.out));(case aS => exact (a_p (by repeat (first|(with_reducible first|exact HB.out|apply a_g|apply a_f|apply a_h|refine a_d ?_ e_G.out|refine a_d ?_ f_o.out|refine a_d ?_ f_3.out)|exact HB.out))));(case aL => have:=LMc37.out;omega);intro v233 w43 ho hb hg hat;rw [← Ny232.out] at ho;have H_S:=a_e.mk (ho);replace b_1:=a_e.mk (Kd.e_S (ok:=(fun k_ => ((P0_0_ k_ ∨ P1_1_ k_) ∨ w.heap.size ≤ k_) ∧ k_ ≠ c_q ∧ k_ ≠ c_S ∧ k_ ≠ c_s)) (by (with_reducible repeat (first|apply Kd.a_Q|apply Kd.a_O|apply Kd.a_W));exact Kd.b_X b_1.out (fun _ hk => ⟨⟨hk.1,⟨hk.2.2.1,⟨hk.2.2.2.1,hk.2.2.2.2⟩⟩⟩,hk.2.1⟩)) hg hat);replace c_K:=a_e.mk (Kd.e_S (ok:=(fun k_ => ((P0_0_ k_ ∨ P1_1_ k_) ∨ w.heap.size ≤ k_) ∧ k_ ≠ c_q ∧ k_ ≠ c_S ∧ k_ ≠ c_s)) (by (with_reducible repeat (first|apply Kd.a_Q|apply Kd.a_O|apply Kd.a_W));exact Kd.b_X c_K.out (fun _ hk => ⟨⟨hk.1,⟨hk.2.2.1,⟨hk.2.2.2.1,hk.2.2.2.2⟩⟩⟩,hk.2.1⟩)) hg hat);replace b_V:=a_e.mk (c_n (g:=c_q) (o:=.cells #[.slice (some ad230) l0_0.length c0_0,.int .i64 a0_1] 24 (0,0)) (bup_ b_V.out) hg (Kd.N_ne HO_6.out b_V.out (by decide)));replace c_r:=a_e.mk (c_n (g:=c_S) (o:=.cells #[.int .i64 a1_0,.slice A1_1 l1_1.length c1_1] 27 (0,0)) (bup_ c_r.out) hg (Kd.n_z HO_6.out (fun _ hk => hk.2.2.1)));replace c_W:=a_e.mk (c_n (g:=c_s) (o:=.cells #[.slice none 0 0,.int .i64 0] 24 (0,0)) (bup_ c_W.out) hg (Kd.N_ne HO_6.out c_W.out (by decide)));replace HL230_1:=a_e.mk (Kd.e_S (ok:=(fun k_ => ((P0_0_ k_ ∨ P1_1_ k_) ∨ w.heap.size ≤ k_) ∧ k_ ≠ c_q ∧ k_ ≠ c_S ∧ k_ ≠ c_s)) (by (with_reducible repeat (first|apply Kd.a_Q|apply Kd.a_O|apply Kd.a_W));exact Kd.b_X HL230_1.out (fun _ hk => ⟨⟨hk.1,⟨hk.2.2.1,⟨hk.2.2.2.1,hk.2.2.2.2⟩⟩⟩,hk.2.1⟩)) hg hat);replace HL231_1:=a_e.mk (Kd.e_S (ok:=(fun k_ => ((P0_0_ k_ ∨ P1_1_ k_) ∨ w.heap.size ≤ k_) ∧ k_ ≠ c_q ∧ k_ ≠ c_S ∧ k_ ≠ c_s)) (by (with_reducible repeat (first|apply Kd.a_Q|apply Kd.a_O|apply Kd.a_W));exact Kd.b_X HL231_1.out (fun _ hk => ⟨⟨hk.1,⟨hk.2.2.1,⟨hk.2.2.2.1,hk.2.2.2.2⟩⟩⟩,hk.2.1⟩)) hg hat);replace HB:=a_e.mk (hb);clear HO_6 ho hb hg hat))
     go_roundg k2
     case measure => have:=HJ4.out;have:=HK2.out;omega
     case rel => exact ⟨(y232),(wrap64 (x7_2 + 1)),(by first|rfl|(simp;done)|(simp [*];done)),H',⟨by have:=HJ4.out;have:=HK2.out;omega⟩,⟨by (with_reducible repeat (first|apply Kd.a_R|apply Kd.a_S|apply Kd.a_Z));exact H_S.out⟩,⟨by (with_reducible repeat (first|apply Kd.a_Q|apply Kd.a_O|apply Kd.a_W));exact Kd.b_X b_1.out (fun _ hk => ⟨hk.1.1,⟨hk.2,⟨hk.1.2.1,⟨hk.1.2.2.1,hk.1.2.2.2⟩⟩⟩⟩)⟩,⟨by (with_reducible repeat (first|apply Kd.a_Q|apply Kd.a_O|apply Kd.a_W));exact Kd.b_X c_K.out (fun _ hk => ⟨hk.1.1,⟨hk.2,⟨hk.1.2.1,⟨hk.1.2.2.1,hk.1.2.2.2⟩⟩⟩⟩)⟩,⟨by (with_reducible repeat (first|refine a_j ?_ _|refine a_k ?_|refine a_i ?_ _));exact b_V.out⟩,⟨by (with_reducible repeat (first|refine a_j ?_ _|refine a_k ?_|refine a_i ?_ _));exact c_r.out⟩,⟨by (with_reducible repeat (first|refine a_j ?_ _|refine a_k ?_|refine a_i ?_ _));exact c_W.out⟩,⟨by repeat (first|(with_reducible first|exact HB.out|apply a_g|apply a_f|apply a_h|refine a_d ?_ e_G.out|refine a_d ?_ f_o.out|refine a_d ?_ f_3.out)|exact HB.out)⟩⟩
end Go.Proofs.Ytgglkfilkagblaa.Q
end
section
namespace Go.Proofs.Ytgglkfilkagblaa.Q
open Go.RowKit Go.Proofs.YtgglkfilkagblaaW.PrintWords Go.Proofs.YtgglkfilkagblaaW.PrintLast Go.Proofs.YtgglkfilkagblaaW.PrintMore
set_option linter.unusedVariables false
set_option linter.unusedSimpArgs false
theorem z_3 (d : Nat) (w : World) (x0 y0 : Int) (x1 y1 : Int) (x2 y2 : Int) (x3 y3 : Int) (x4 y4 : Int) (x5 y5 : Bool) (x6 y6 : Bool) (x7 y7 : Int) (x8 y8 : Int) (x9 y9 : Int) (x10 y10 : Int) :
 (Op.equalIn (d + 2) 65 (.agg #[.int .i64 x0,.int .i64 x1,.int .i64 x2,.int .i64 x3,.int .i64 x4,.bool x5,.bool x6,.int .u32 x7,.int .i64 x8,.int .i64 x9,.int .i64 x10]) (.agg #[.int .i64 y0,.int .i64 y1,.int .i64 y2,.int .i64 y3,.int .i64 y4,.bool y5,.bool y6,.int .u32 y7,.int .i64 y8,.int .i64 y9,.int .i64 y10])).run Try.prog w = .ok (x0 == y0 && (x1 == y1 && (x2 == y2 && (x3 == y3 && (x4 == y4 && (x5 == y5 && (x6 == y6 && (x7 == y7 && (x8 == y8 && (x9 == y9 && (x10 == y10))))))))))) w:=by
 refine r_P Try.underlying65 (by kernel_rfl) ?_
 refine e_R (by rfl) (by go_simp;rfl) (by go_simp;rfl) (by go_simp) ?_
 refine e_R (by rfl) (by go_simp;rfl) (by go_simp;rfl) (by go_simp) ?_
 refine e_R (by rfl) (by go_simp;rfl) (by go_simp;rfl) (by go_simp) ?_
 refine e_R (by rfl) (by go_simp;rfl) (by go_simp;rfl) (by go_simp) ?_
 refine e_R (by rfl) (by go_simp;rfl) (by go_simp;rfl) (by go_simp) ?_
 refine e_R (by rfl) (by go_simp;rfl) (by go_simp;rfl) (by go_simp) ?_
 refine e_R (by rfl) (by go_simp;rfl) (by go_simp;rfl) (by go_simp) ?_
 refine e_R (by rfl) (by go_simp;rfl) (by go_simp;rfl) (by go_simp) ?_
 refine e_R (by rfl) (by go_simp;rfl) (by go_simp;rfl) (by go_simp) ?_
 refine e_R (by rfl) (by go_simp;rfl) (by go_simp;rfl) (by go_simp) ?_
 exact n_y (by rfl) (by go_simp;rfl) (by go_simp;rfl) (by go_simp)
end Go.Proofs.Ytgglkfilkagblaa.Q
end
section
namespace Go.Proofs.Ytgglkfilkagblaa.Q
open Go.RowKit Go.Proofs.YtgglkfilkagblaaW.PrintWords Go.Proofs.YtgglkfilkagblaaW.PrintLast Go.Proofs.YtgglkfilkagblaaW.PrintMore
set_option linter.unusedVariables false
set_option linter.unusedSimpArgs false
attribute [local go_sem high] z_3
def a_D.l0 : Nat → List (S65) → List (S65) → Int → Option (Bool)
 | 0,_,_,_ => none
 | k + 1,x0,x1,x5 => if x5 < (x0.length : Int) then (if 0 ≤ x5 then (if x5 < (x1.length : Int) then (if (!(((a_c x0 x5).f0) == ((a_c x1 x5).f0)) || (!(((a_c x0 x5).f1) == ((a_c x1 x5).f1)) || (!(((a_c x0 x5).f2) == ((a_c x1 x5).f2)) || (!(((a_c x0 x5).f3) == ((a_c x1 x5).f3)) || (!(((a_c x0 x5).f4) == ((a_c x1 x5).f4)) || (!(((a_c x0 x5).f5) == ((a_c x1 x5).f5)) || (!(((a_c x0 x5).f6) == ((a_c x1 x5).f6)) || (!(((a_c x0 x5).f7) == ((a_c x1 x5).f7)) || (!(((a_c x0 x5).f8) == ((a_c x1 x5).f8)) || (!(((a_c x0 x5).f9) == ((a_c x1 x5).f9)) || (!(((a_c x0 x5).f10) == ((a_c x1 x5).f10))))))))))))) = true then (some false) else (a_D.l0 k x0 x1 (wrap64 (x5 + 1)))) else (none)) else (none)) else (some true)
def a_D.f (k : Nat) (l0 : List (S65)) (l1 : List (S65)) : Option (Bool):=if (l0.length : Int) = (l1.length : Int) then (a_D.l0 k l0 l1 0) else (some false)
theorem a_D.c_N : ∀ k,(∀ y0 y1 y2,LeO (a_D.l0 k y0 y1 y2) (a_D.l0 (k + 1) y0 y1 y2))
 | 0 => fun _ _ _ r h => by simp [a_D.l0] at h
 | k + 1 => by
  have ih0:=a_D.c_N k
  ·intro y0 y1 y2
   unfold a_D.l0
   repeat' first
   | (with_reducible exact ih0 _ _ _)
   | (with_reducible exact LeO.refl _)
   | (with_reducible exact LeO.none _)
   | (with_reducible refine LeO.ite ?_ ?_)
   | (with_reducible refine LeO.bind ?_ (fun _ => ?_))
   | exact ih0 _ _ _
   | exact LeO.none _
   | refine LeO.ite ?_ ?_
   | refine LeO.bind ?_ (fun _ => ?_)
theorem a_D.mono : ∀ a0 a1 k,LeO (a_D.f k a0 a1) (a_D.f (k + 1) a0 a1):=by
 intro a0 a1 k
 have ih0:=a_D.c_N k
 unfold a_D.f
 repeat' first
  | (with_reducible exact ih0 _ _ _)
  | (with_reducible exact LeO.refl _)
  | (with_reducible exact LeO.none _)
  | (with_reducible refine LeO.ite ?_ ?_)
  | (with_reducible refine LeO.bind ?_ (fun _ => ?_))
  | exact ih0 _ _ _
  | exact LeO.none _
  | refine LeO.ite ?_ ?_
  | refine LeO.bind ?_ (fun _ => ?_)
set_option maxHeartbeats 8000000 in
set_option maxRecDepth 100000 in
theorem a_D.calls (k : Nat) (A0 : Option Addr) (c0 : Nat) (l0 : List (S65)) (A1 : Option Addr) (c1 : Nat) (l1 : List (S65)) (r : Bool) (w : World) (hr0 : Kd.C k65 w A0 l0.length l0) (hc0 : l0.length ≤ c0) (hr1 : Kd.C k65 w A1 l1.length l1) (hc1 : l1.length ≤ c1) (h : a_D.f k l0 l1 = some r) :
 Calls Try.prog 27 #[.slice A0 l0.length c0,.slice A1 l1.length c1] w fun e w' => e = .returned (.bool r) ∧ c_g w w':=by
 have hu65:=Try.underlying65
 have HR0:=a_e.mk hr0
 have HC0:=a_e.mk hc0
 clear hr0 hc0
 have HR1:=a_e.mk hr1
 have HC1:=a_e.mk hc1
 clear hr1 hc1
 have H : (if (l0.length : Int) = (l1.length : Int) then (a_D.l0 k l0 l1 0) else (some false)) = some r:=h
 clear h
 by_cases c3 : (l0.length : Int) = (l1.length : Int)
 rotate_left
 ·rw [if_neg c3] at H
  have c3b0 : ((l0.length : Int) == (l1.length : Int)) = false:=beq_eq_false_iff_ne.mpr c3
  have c3b1 : ((l0.length : Int) != (l1.length : Int)) = true:=bne_iff_ne.mpr c3
  have c3b2 : (l0.length == l1.length) = false:=by first|simpa using c3|(simp at c3 ⊢; omega)
  obtain rfl:=Option.some.inj H
  go_enter Try.func27,Try.ntmps27
  go_wp2
  repeat (go_quiet (fail);try go_wp2)
  go_ret
  exact ⟨by first|rfl|(simp;done)|(simp [*];done),by repeat (first|exact c_g.refl _|apply c_g.step)⟩
 rw [if_pos c3] at H
 have c3b0 : ((l0.length : Int) == (l1.length : Int)) = true:=beq_iff_eq.mpr c3
 have c3b1 : ((l0.length : Int) != (l1.length : Int)) = false:=bne_eq_false_iff_eq.mpr c3
 have c3b2 : (l0.length == l1.length) = true:=by first|simpa using c3|(simp at c3 ⊢; omega)
 clear c3
 have H':=a_e.mk H
 clear H
 go_enter Try.func27,Try.ntmps27
 go_wp2
 repeat (go_quiet (fail);try go_wp2)
 go_loopg [5] k (fun kq v5 w' => ∃ (x5_1 : Int),v5 = .int .i64 x5_1 ∧ a_e (a_D.l0 kq l0 l1 x5_1 = some r) ∧ a_e (kq ≤ k) ∧ c_g w w')
 case atStart => exact ⟨(0),(by first|rfl|(simp;done)|(simp [*];done)),H',⟨Nat.le_refl _⟩,by repeat (first|exact c_g.refl _|apply c_g.step)⟩
 case round =>
  clear H'
  try clear c1
  try clear c2
  try clear p2
  try clear c3
  try clear c3b0
  try clear c3b1
  try clear c3b2
  obtain ⟨x5_1,rfl,HA,HK1,⟨m1,rfl⟩⟩:=hrel
  cases gk with
  | zero => exact absurd HA.out (by simp [a_D.l0])
  | succ k1 =>
   have H:=HA.out
   clear HA
   simp only [a_D.l0] at H
   by_cases c4 : x5_1 < (l0.length : Int)
   rotate_left
   ·rw [if_neg c4] at H
    have c4b0 : decide (x5_1 < (l0.length : Int)) = false:=decide_eq_false c4
    clear c4
    obtain rfl:=Option.some.inj H
    go_wp2
    repeat (go_quiet (fail);try go_wp2)
    go_ret
    exact ⟨by first|rfl|(simp;done)|(simp [*];done),by repeat (first|exact c_g.refl _|apply c_g.step)⟩
   rw [if_pos c4] at H
   have c4b0 : decide (x5_1 < (l0.length : Int)) = true:=decide_eq_true c4
   clear c4
   by_cases c5 : 0 ≤ x5_1
   rotate_left
   ·rw [if_neg c5] at H
    exact absurd H (by simp)
   rw [if_pos c5] at H
   have c5b0 : decide (0 ≤ x5_1) = true:=decide_eq_true c5
   clear c5
   by_cases c6 : x5_1 < (l1.length : Int)
   rotate_left
   ·rw [if_neg c6] at H
    exact absurd H (by simp)
   rw [if_pos c6] at H
   have c6b0 : decide (x5_1 < (l1.length : Int)) = true:=decide_eq_true c6
   clear c6
   by_cases c7 : (!(((a_c l0 x5_1).f0) == ((a_c l1 x5_1).f0)) || (!(((a_c l0 x5_1).f1) == ((a_c l1 x5_1).f1)) || (!(((a_c l0 x5_1).f2) == ((a_c l1 x5_1).f2)) || (!(((a_c l0 x5_1).f3) == ((a_c l1 x5_1).f3)) || (!(((a_c l0 x5_1).f4) == ((a_c l1 x5_1).f4)) || (!(((a_c l0 x5_1).f5) == ((a_c l1 x5_1).f5)) || (!(((a_c l0 x5_1).f6) == ((a_c l1 x5_1).f6)) || (!(((a_c l0 x5_1).f7) == ((a_c l1 x5_1).f7)) || (!(((a_c l0 x5_1).f8) == ((a_c l1 x5_1).f8)) || (!(((a_c l0 x5_1).f9) == ((a_c l1 x5_1).f9)) || (!(((a_c l0 x5_1).f10) == ((a_c l1 x5_1).f10))))))))))))) = true
   ·rw [if_pos c7] at H
    have c7b0 : (!(((a_c l0 x5_1).f0) == ((a_c l1 x5_1).f0)) || (!(((a_c l0 x5_1).f1) == ((a_c l1 x5_1).f1)) || (!(((a_c l0 x5_1).f2) == ((a_c l1 x5_1).f2)) || (!(((a_c l0 x5_1).f3) == ((a_c l1 x5_1).f3)) || (!(((a_c l0 x5_1).f4) == ((a_c l1 x5_1).f4)) || (!(((a_c l0 x5_1).f5) == ((a_c l1 x5_1).f5)) || (!(((a_c l0 x5_1).f6) == ((a_c l1 x5_1).f6)) || (!(((a_c l0 x5_1).f7) == ((a_c l1 x5_1).f7)) || (!(((a_c l0 x5_1).f8) == ((a_c l1 x5_1).f8)) || (!(((a_c l0 x5_1).f9) == ((a_c l1 x5_1).f9)) || (!(((a_c l0 x5_1).f10) == ((a_c l1 x5_1).f10))))))))))))) = true:=c7
    clear c7
    obtain rfl:=Option.some.inj H
    have p238 : 0 ≤ (x5_1 : Int):=of_decide_eq_true (by first|(with_reducible assumption)|assumption)
    have q238 : x5_1 < (l0.length : Int):=of_decide_eq_true (by first|(with_reducible assumption)|assumption)
    obtain ⟨ad238,e238,u_D,u_E,u_F,u_G,u_H,u_I,u_J,u_K,u_L,u_M,r_B⟩:=e_h HR0.out x5_1 p238 q238
    cases e238
    replace p238:=eq_true p238
    replace q238:=eq_true q238
    have p239 : 0 ≤ (x5_1 : Int):=of_decide_eq_true (by first|(with_reducible assumption)|assumption)
    have q239 : x5_1 < (l1.length : Int):=of_decide_eq_true (by first|(with_reducible assumption)|assumption)
    obtain ⟨ad239,e239,u_N,u_O,u_P,u_Q,u_R,u_S,u_T,u_U,u_V,u_W,r_C⟩:=e_h HR1.out x5_1 p239 q239
    cases e239
    replace p239:=eq_true p239
    replace q239:=eq_true q239
    go_wp2
    repeat (go_quiet (fail);try go_wp2)
    go_ret
    exact ⟨by first|rfl|(simp;done)|(simp [*];done),by repeat (first|exact c_g.refl _|apply c_g.step)⟩
   rw [if_neg c7] at H
   have c7b0 : (!(((a_c l0 x5_1).f0) == ((a_c l1 x5_1).f0)) || (!(((a_c l0 x5_1).f1) == ((a_c l1 x5_1).f1)) || (!(((a_c l0 x5_1).f2) == ((a_c l1 x5_1).f2)) || (!(((a_c l0 x5_1).f3) == ((a_c l1 x5_1).f3)) || (!(((a_c l0 x5_1).f4) == ((a_c l1 x5_1).f4)) || (!(((a_c l0 x5_1).f5) == ((a_c l1 x5_1).f5)) || (!(((a_c l0 x5_1).f6) == ((a_c l1 x5_1).f6)) || (!(((a_c l0 x5_1).f7) == ((a_c l1 x5_1).f7)) || (!(((a_c l0 x5_1).f8) == ((a_c l1 x5_1).f8)) || (!(((a_c l0 x5_1).f9) == ((a_c l1 x5_1).f9)) || (!(((a_c l0 x5_1).f10) == ((a_c l1 x5_1).f10))))))))))))) = false:=by simpa using c7
   clear c7
   have H':=a_e.mk H
   clear H
   have p238 : 0 ≤ (x5_1 : Int):=of_decide_eq_true (by first|(with_reducible assumption)|assumption)
   have q238 : x5_1 < (l0.length : Int):=of_decide_eq_true (by first|(with_reducible assumption)|assumption)
   obtain ⟨ad238,e238,u_D,u_E,u_F,u_G,u_H,u_I,u_J,u_K,u_L,u_M,r_B⟩:=e_h HR0.out x5_1 p238 q238
   cases e238
   replace p238:=eq_true p238
   replace q238:=eq_true q238
   have p239 : 0 ≤ (x5_1 : Int):=of_decide_eq_true (by first|(with_reducible assumption)|assumption)
   have q239 : x5_1 < (l1.length : Int):=of_decide_eq_true (by first|(with_reducible assumption)|assumption)
   obtain ⟨ad239,e239,u_N,u_O,u_P,u_Q,u_R,u_S,u_T,u_U,u_V,u_W,r_C⟩:=e_h HR1.out x5_1 p239 q239
   cases e239
   replace p239:=eq_true p239
   replace q239:=eq_true q239
   go_wp2
   repeat (go_quiet (fail);try go_wp2)
   go_roundg k1
   case measure => have:=HK1.out;omega
   case rel => exact ⟨(wrap64 (x5_1 + 1)),(by first|rfl|(simp;done)|(simp [*];done)),H',⟨by have:=HK1.out;omega⟩,by repeat (first|exact c_g.refl _|apply c_g.step)⟩
end Go.Proofs.Ytgglkfilkagblaa.Q
end
section
namespace Go.Proofs.Ytgglkfilkagblaa.Q
open Go.RowKit Go.Proofs.YtgglkfilkagblaaW.PrintWords Go.Proofs.YtgglkfilkagblaaW.PrintLast Go.Proofs.YtgglkfilkagblaaW.PrintMore
set_option linter.unusedVariables false
set_option linter.unusedSimpArgs false
mutual
def a_z.j0 : Nat → Bool → List (S27) → Int → List (S27) → Int → Option (Bool)
 | 0,_,_,_,_,_ => none
 | k + 1,x19,x241000,x241001,x242000,x242001 => if x19 = true then (some false) else (a_z.l0 k 0 x241000 x241001 x242000 x242001)
def a_z.l0 : Nat → Int → List (S27) → Int → List (S27) → Int → Option (Bool)
 | 0,_,_,_,_,_ => none
 | k + 1,x5,x241000,x241001,x242000,x242001 => if x5 < (x241000.length : Int) then (if 0 ≤ x5 then (if x5 < (x242000.length : Int) then (if ((a_o x241000 x5).f0) = ((a_o x242000 x5).f0) then ((a_D.f k ((a_o x241000 x5).f1) ((a_o x242000 x5).f1)).bind fun t246 => (if t246 = true then (a_z.l0 k (wrap64 (x5 + 1)) x241000 x241001 x242000 x242001) else (some false))) else (some false)) else (none)) else (none)) else (some true)
end
def a_z.f (k : Nat) (l0_0 : List (S27)) (a0_1 : Int) (l1_0 : List (S27)) (a1_1 : Int) : Option (Bool):=if a0_1 = a1_1 then (a_z.j0 k ((l0_0.length : Int) != (l1_0.length : Int)) l0_0 a0_1 l1_0 a1_1) else (a_z.j0 k true l0_0 a0_1 l1_0 a1_1)
theorem a_z.c_N : ∀ k,(∀ y0 y1 y2 y3 y4,LeO (a_z.j0 k y0 y1 y2 y3 y4) (a_z.j0 (k + 1) y0 y1 y2 y3 y4)) ∧ (∀ y0 y1 y2 y3 y4,LeO (a_z.l0 k y0 y1 y2 y3 y4) (a_z.l0 (k + 1) y0 y1 y2 y3 y4))
 | 0 => ⟨fun _ _ _ _ _ r h => by simp [a_z.j0] at h,fun _ _ _ _ _ r h => by simp [a_z.l0] at h⟩
 | k + 1 => by
  obtain ⟨ih0,ih1⟩:=a_z.c_N k
  refine ⟨?_,?_⟩
  ·intro y0 y1 y2 y3 y4
   unfold a_z.j0
   repeat' first
   | (with_reducible exact ih0 _ _ _ _ _)
   | (with_reducible exact ih1 _ _ _ _ _)
   | (with_reducible exact a_D.mono _ _ _)
   | (with_reducible exact LeO.refl _)
   | (with_reducible exact LeO.none _)
   | (with_reducible refine LeO.ite ?_ ?_)
   | (with_reducible refine LeO.bind ?_ (fun _ => ?_))
   | exact ih0 _ _ _ _ _
   | exact ih1 _ _ _ _ _
   | exact a_D.mono _ _ _
   | exact LeO.none _
   | refine LeO.ite ?_ ?_
   | refine LeO.bind ?_ (fun _ => ?_)
  ·intro y0 y1 y2 y3 y4
   unfold a_z.l0
   repeat' first
   | (with_reducible exact ih0 _ _ _ _ _)
   | (with_reducible exact ih1 _ _ _ _ _)
   | (with_reducible exact a_D.mono _ _ _)
   | (with_reducible exact LeO.refl _)
   | (with_reducible exact LeO.none _)
   | (with_reducible refine LeO.ite ?_ ?_)
   | (with_reducible refine LeO.bind ?_ (fun _ => ?_))
   | exact ih0 _ _ _ _ _
   | exact ih1 _ _ _ _ _
   | exact a_D.mono _ _ _
   | exact LeO.none _
   | refine LeO.ite ?_ ?_
   | refine LeO.bind ?_ (fun _ => ?_)
theorem a_z.mono : ∀ a0 a1 a2 a3 k,LeO (a_z.f k a0 a1 a2 a3) (a_z.f (k + 1) a0 a1 a2 a3):=by
 intro a0 a1 a2 a3 k
 obtain ⟨ih0,ih1⟩:=a_z.c_N k
 unfold a_z.f
 repeat' first
  | (with_reducible exact ih0 _ _ _ _ _)
  | (with_reducible exact ih1 _ _ _ _ _)
  | (with_reducible exact a_D.mono _ _ _)
  | (with_reducible exact LeO.refl _)
  | (with_reducible exact LeO.none _)
  | (with_reducible refine LeO.ite ?_ ?_)
  | (with_reducible refine LeO.bind ?_ (fun _ => ?_))
  | exact ih0 _ _ _ _ _
  | exact ih1 _ _ _ _ _
  | exact a_D.mono _ _ _
  | exact LeO.none _
  | refine LeO.ite ?_ ?_
  | refine LeO.bind ?_ (fun _ => ?_)
set_option maxHeartbeats 8000000 in
set_option maxRecDepth 100000 in
theorem a_z.calls (k : Nat) (A0_0 : Option Addr) (c0_0 : Nat) (l0_0 : List (S27)) (a0_1 : Int) (A1_0 : Option Addr) (c1_0 : Nat) (l1_0 : List (S27)) (a1_1 : Int) (r : Bool) (w : World) (hr0_0 : Kd.C k27 w A0_0 l0_0.length l0_0) (hc0_0 : l0_0.length ≤ c0_0) (hr1_0 : Kd.C k27 w A1_0 l1_0.length l1_0) (hc1_0 : l1_0.length ≤ c1_0) (h : a_z.f k l0_0 a0_1 l1_0 a1_1 = some r) :
 Calls Try.prog 13 #[.agg #[.slice A0_0 l0_0.length c0_0,.int .i64 a0_1],.agg #[.slice A1_0 l1_0.length c1_0,.int .i64 a1_1]] w fun e w' => e = .returned (.bool r) ∧ Below w.heap.size w w':=by
 have hu24:=Try.underlying24
 have c_V:=a_e.mk hr0_0
 have f_w:=a_e.mk hc0_0
 clear hr0_0 hc0_0
 have q_u:=a_e.mk hr1_0
 have O_T:=a_e.mk hc1_0
 clear hr1_0 hc1_0
 have HB:=a_e.mk (Below.refl w.heap.size w)
 have H : (if a0_1 = a1_1 then (a_z.j0 k ((l0_0.length : Int) != (l1_0.length : Int)) l0_0 a0_1 l1_0 a1_1) else (a_z.j0 k true l0_0 a0_1 l1_0 a1_1)) = some r:=h
 clear h
 have HC3:=a_e.mk H
 clear H
 go_enter Try.func13,Try.ntmps13
 go_upto_region 1 with (first|((with_reducible refine a_U (N:=2) rfl ?_);(try (refine c_P (by rfl) ?_;dsimp only));refine a_H ?hg (N:=2) ?hd (cs:=#[.slice A0_0 l0_0.length c0_0,.int .i64 a0_1]) (t:=24) ?hr ?_;(case hd => rfl);(case hg => rfl);(case hr => first|(go_simp;done)|(go_simp;rfl));intro e_9 hg w4 hbox hb;have d_J:=a_e.mk (hbox);have w_H:=a_e.mk ((by rw [hg];exact (a_p (lup_ HB.out)) : w.heap.size ≤ e_9));have g_v:=a_e.mk ((by rw [hg];exact (a_p (lup_ HB.out)) : w.heap.size ≤ e_9));replace HB:=a_e.mk (a_t (lup_ HB.out) hb);clear hb hbox hg)|((with_reducible refine a_U (N:=3) rfl ?_);(try (refine c_P (by rfl) ?_;dsimp only));refine a_H ?hg (N:=3) ?hd (cs:=#[.slice A1_0 l1_0.length c1_0,.int .i64 a1_1]) (t:=24) ?hr ?_;(case hd => rfl);(case hg => rfl);(case hr => first|(go_simp;done)|(go_simp;rfl));intro f_q hg w5 hbox hb;have f_a:=a_e.mk (hbox);have w_I:=a_e.mk ((by rw [hg];exact (a_p (by repeat (first|(with_reducible first|exact HB.out|apply a_g|apply a_f|apply a_h|refine a_d ?_ g_v.out)|exact HB.out))) : w.heap.size ≤ f_q));have k_p:=a_e.mk ((by rw [hg];exact (a_p (by repeat (first|(with_reducible first|exact HB.out|apply a_g|apply a_f|apply a_h|refine a_d ?_ g_v.out)|exact HB.out))) : w.heap.size ≤ f_q));have f_r:=a_e.mk ((by rw [hg];exact Nat.ne_of_lt (a_N (bup_ d_J.out)) : e_9 ≠ f_q));have f_s:=a_e.mk ((by rw [hg];exact Nat.ne_of_gt (a_N (bup_ d_J.out)) : f_q ≠ e_9));replace d_J:=a_e.mk (a_l (bup_ d_J.out) hb);replace HB:=a_e.mk (a_t (by repeat (first|(with_reducible first|exact HB.out|apply a_g|apply a_f|apply a_h|refine a_d ?_ g_v.out)|exact HB.out)) hb);clear hb hbox hg))
 repeat (go_quiet (first|((with_reducible refine a_U (N:=2) rfl ?_);(try (refine c_P (by rfl) ?_;dsimp only));refine a_H ?hg (N:=2) ?hd (cs:=#[.slice A0_0 l0_0.length c0_0,.int .i64 a0_1]) (t:=24) ?hr ?_;(case hd => rfl);(case hg => rfl);(case hr => first|(go_simp;done)|(go_simp;rfl));intro e_9 hg w4 hbox hb;have d_J:=a_e.mk (hbox);have w_H:=a_e.mk ((by rw [hg];exact (a_p (lup_ HB.out)) : w.heap.size ≤ e_9));have g_v:=a_e.mk ((by rw [hg];exact (a_p (lup_ HB.out)) : w.heap.size ≤ e_9));replace HB:=a_e.mk (a_t (lup_ HB.out) hb);clear hb hbox hg)|((with_reducible refine a_U (N:=3) rfl ?_);(try (refine c_P (by rfl) ?_;dsimp only));refine a_H ?hg (N:=3) ?hd (cs:=#[.slice A1_0 l1_0.length c1_0,.int .i64 a1_1]) (t:=24) ?hr ?_;(case hd => rfl);(case hg => rfl);(case hr => first|(go_simp;done)|(go_simp;rfl));intro f_q hg w5 hbox hb;have f_a:=a_e.mk (hbox);have w_I:=a_e.mk ((by rw [hg];exact (a_p (by repeat (first|(with_reducible first|exact HB.out|apply a_g|apply a_f|apply a_h|refine a_d ?_ g_v.out)|exact HB.out))) : w.heap.size ≤ f_q));have k_p:=a_e.mk ((by rw [hg];exact (a_p (by repeat (first|(with_reducible first|exact HB.out|apply a_g|apply a_f|apply a_h|refine a_d ?_ g_v.out)|exact HB.out))) : w.heap.size ≤ f_q));have f_r:=a_e.mk ((by rw [hg];exact Nat.ne_of_lt (a_N (bup_ d_J.out)) : e_9 ≠ f_q));have f_s:=a_e.mk ((by rw [hg];exact Nat.ne_of_gt (a_N (bup_ d_J.out)) : f_q ≠ e_9));replace d_J:=a_e.mk (a_l (bup_ d_J.out) hb);replace HB:=a_e.mk (a_t (by repeat (first|(with_reducible first|exact HB.out|apply a_g|apply a_f|apply a_h|refine a_d ?_ g_v.out)|exact HB.out)) hb);clear hb hbox hg));go_upto_region 1 with (first|((with_reducible refine a_U (N:=2) rfl ?_);(try (refine c_P (by rfl) ?_;dsimp only));refine a_H ?hg (N:=2) ?hd (cs:=#[.slice A0_0 l0_0.length c0_0,.int .i64 a0_1]) (t:=24) ?hr ?_;(case hd => rfl);(case hg => rfl);(case hr => first|(go_simp;done)|(go_simp;rfl));intro e_9 hg w4 hbox hb;have d_J:=a_e.mk (hbox);have w_H:=a_e.mk ((by rw [hg];exact (a_p (lup_ HB.out)) : w.heap.size ≤ e_9));have g_v:=a_e.mk ((by rw [hg];exact (a_p (lup_ HB.out)) : w.heap.size ≤ e_9));replace HB:=a_e.mk (a_t (lup_ HB.out) hb);clear hb hbox hg)|((with_reducible refine a_U (N:=3) rfl ?_);(try (refine c_P (by rfl) ?_;dsimp only));refine a_H ?hg (N:=3) ?hd (cs:=#[.slice A1_0 l1_0.length c1_0,.int .i64 a1_1]) (t:=24) ?hr ?_;(case hd => rfl);(case hg => rfl);(case hr => first|(go_simp;done)|(go_simp;rfl));intro f_q hg w5 hbox hb;have f_a:=a_e.mk (hbox);have w_I:=a_e.mk ((by rw [hg];exact (a_p (by repeat (first|(with_reducible first|exact HB.out|apply a_g|apply a_f|apply a_h|refine a_d ?_ g_v.out)|exact HB.out))) : w.heap.size ≤ f_q));have k_p:=a_e.mk ((by rw [hg];exact (a_p (by repeat (first|(with_reducible first|exact HB.out|apply a_g|apply a_f|apply a_h|refine a_d ?_ g_v.out)|exact HB.out))) : w.heap.size ≤ f_q));have f_r:=a_e.mk ((by rw [hg];exact Nat.ne_of_lt (a_N (bup_ d_J.out)) : e_9 ≠ f_q));have f_s:=a_e.mk ((by rw [hg];exact Nat.ne_of_gt (a_N (bup_ d_J.out)) : f_q ≠ e_9));replace d_J:=a_e.mk (a_l (bup_ d_J.out) hb);replace HB:=a_e.mk (a_t (by repeat (first|(with_reducible first|exact HB.out|apply a_g|apply a_f|apply a_h|refine a_d ?_ g_v.out)|exact HB.out)) hb);clear hb hbox hg)))
 (try simp only [Act.put,sa_,sb_,sc_])
 go_cut [19] (fun v19 wc => ∃ (kq : Nat) (x19_2 : Bool),v19 = .bool x19_2 ∧ a_e (a_z.j0 kq x19_2 l0_0 a0_1 l1_0 a1_1 = some r) ∧ a_e (kq ≤ k) ∧ a_e (wc.heap[e_9]? = some (.cells #[(.slice A0_0 l0_0.length c0_0),.int .i64 a0_1] 24 (0,0))) ∧ a_e (wc.heap[f_q]? = some (.cells #[(.slice A1_0 l1_0.length c1_0),.int .i64 a1_1] 24 (0,0))) ∧ a_e (Below w.heap.size w wc))
 case first =>
  have H:=HC3.out
  clear HC3
  by_cases c6 : a0_1 = a1_1
  ·rw [if_pos c6] at H
   have c6b0 : (a0_1 == a1_1) = true:=beq_iff_eq.mpr c6
   have c6b1 : (a0_1 != a1_1) = false:=bne_eq_false_iff_eq.mpr c6
   clear c6
   (first|rw [c6b0]|(simp only [a_r,a_s];rw [c6b0])|skip)
   have H':=a_e.mk H
   clear H
   have hnb7:=f_r.out
   have hnc7:=f_s.out
   have h_V : w5.cell? ⟨e_9,0,none⟩ = some (.slice A0_0 l0_0.length c0_0):=(a_a d_J.out 0).trans rfl
   have h_W : w5.cell? ⟨e_9,1,none⟩ = some (.int .i64 a0_1):=(a_a d_J.out 1).trans rfl
   have h_X:=a_b d_J.out 0
   have h_Y:=a_b d_J.out 1
   have k_v : w5.cell? ⟨f_q,0,none⟩ = some (.slice A1_0 l1_0.length c1_0):=(a_a f_a.out 0).trans rfl
   have k_w : w5.cell? ⟨f_q,1,none⟩ = some (.int .i64 a1_1):=(a_a f_a.out 1).trans rfl
   have k_x:=a_b f_a.out 0
   have k_y:=a_b f_a.out 1
   go_wp2
   repeat (go_quiet (fail);try go_wp2)
   go_meet
   case rel => exact ⟨_,(((l0_0.length : Int) != (l1_0.length : Int))),(by first|rfl|(simp;done)|(simp [*];done)),H',⟨by first|omega|exact Nat.le_refl _⟩,⟨by (with_reducible repeat (first|refine a_j ?_ _|refine a_k ?_|refine a_i ?_ _));exact d_J.out⟩,⟨by (with_reducible repeat (first|refine a_j ?_ _|refine a_k ?_|refine a_i ?_ _));exact f_a.out⟩,⟨by repeat (first|(with_reducible first|exact HB.out|apply a_g|apply a_f|apply a_h|refine a_d ?_ g_v.out|refine a_d ?_ k_p.out)|exact HB.out)⟩⟩
  rw [if_neg c6] at H
  have c6b0 : (a0_1 == a1_1) = false:=beq_eq_false_iff_ne.mpr c6
  have c6b1 : (a0_1 != a1_1) = true:=bne_iff_ne.mpr c6
  (first|rw [c6b0]|(simp only [a_r,a_s];rw [c6b0])|skip)
  have H':=a_e.mk H
  clear H
  have H_D:=f_r.out
  have H_E:=f_s.out
  have g_h : w5.cell? ⟨e_9,0,none⟩ = some (.slice A0_0 l0_0.length c0_0):=(a_a d_J.out 0).trans rfl
  have g_i : w5.cell? ⟨e_9,1,none⟩ = some (.int .i64 a0_1):=(a_a d_J.out 1).trans rfl
  have g_j:=a_b d_J.out 0
  have f_D:=a_b d_J.out 1
  have i_k : w5.cell? ⟨f_q,0,none⟩ = some (.slice A1_0 l1_0.length c1_0):=(a_a f_a.out 0).trans rfl
  have i_l : w5.cell? ⟨f_q,1,none⟩ = some (.int .i64 a1_1):=(a_a f_a.out 1).trans rfl
  have i_m:=a_b f_a.out 0
  have i_n:=a_b f_a.out 1
  go_wp2
  repeat (go_quiet (fail);try go_wp2)
  go_meet
  case rel => exact ⟨_,(true),(by first|rfl|(simp;done)|(simp [*];done)),H',⟨by first|omega|exact Nat.le_refl _⟩,⟨by (with_reducible repeat (first|refine a_j ?_ _|refine a_k ?_|refine a_i ?_ _));exact d_J.out⟩,⟨by (with_reducible repeat (first|refine a_j ?_ _|refine a_k ?_|refine a_i ?_ _));exact f_a.out⟩,⟨by repeat (first|(with_reducible first|exact HB.out|apply a_g|apply a_f|apply a_h|refine a_d ?_ g_v.out|refine a_d ?_ k_p.out)|exact HB.out)⟩⟩
 case rest =>
  clear HC3
  try clear c1
  try clear p2
  try clear c6
  try clear c6b0
  try clear c6b1
  try clear c7
  try clear c10
  try clear g_h
  try clear g_i
  try clear i_k
  try clear i_l
  try clear h_V
  try clear h_W
  try clear k_v
  try clear k_w
  try clear g_j
  try clear f_D
  try clear i_m
  try clear i_n
  try clear h_X
  try clear h_Y
  try clear k_x
  try clear k_y
  obtain ⟨kq,x19_2,rfl,HA,HJ2,d_J,f_a,HB⟩:=hcut
  cases kq with
  | zero => exact absurd HA.out (by simp [a_z.j0])
  | succ kj2 =>
   have H:=HA.out
   clear HA
   simp only [a_z.j0] at H
   by_cases c13 : x19_2 = true
   ·subst c13
    have H1 : (some false) = some r:=by rw [if_pos rfl] at H;exact H
    clear H
    have H:=H1
    clear H1
    obtain rfl:=Option.some.inj H
    go_wp2
    repeat (go_quiet (fail);try go_wp2)
    go_ret
    exact ⟨by first|rfl|(simp [a_w,a_x] <;> rfl)|(simp [*, a_w,a_x] <;> rfl),by repeat (first|(with_reducible first|exact HB.out|apply a_g|apply a_f|apply a_h|refine a_d ?_ g_v.out|refine a_d ?_ k_p.out)|exact HB.out)⟩
   replace c13:=Bool.eq_false_iff.mpr c13
   subst c13
   have H1 : (a_z.l0 kj2 0 l0_0 a0_1 l1_0 a1_1) = some r:=by rw [if_neg (show ¬ (false = true) by decide)] at H;exact H
   clear H
   have H:=H1
   clear H1
   have H':=a_e.mk H
   clear H
   go_wp2
   repeat (go_quiet (fail);try go_wp2)
   go_loopg [5] kj2 (fun kq v5 w' => ∃ (x5_2 : Int),v5 = .int .i64 x5_2 ∧ a_e (a_z.l0 kq x5_2 l0_0 a0_1 l1_0 a1_1 = some r) ∧ a_e (kq ≤ kj2) ∧ a_e (w'.heap[e_9]? = some (.cells #[(.slice A0_0 l0_0.length c0_0),.int .i64 a0_1] 24 (0,0))) ∧ a_e (w'.heap[f_q]? = some (.cells #[(.slice A1_0 l1_0.length c1_0),.int .i64 a1_1] 24 (0,0))) ∧ a_e (Below w.heap.size w w'))
   case atStart => exact ⟨(0),(by first|rfl|(simp;done)|(simp [*];done)),H',⟨Nat.le_refl _⟩,⟨by (with_reducible repeat (first|refine a_j ?_ _|refine a_k ?_|refine a_i ?_ _));exact d_J.out⟩,⟨by (with_reducible repeat (first|refine a_j ?_ _|refine a_k ?_|refine a_i ?_ _));exact f_a.out⟩,⟨by repeat (first|(with_reducible first|exact HB.out|apply a_g|apply a_f|apply a_h|refine a_d ?_ g_v.out|refine a_d ?_ k_p.out)|exact HB.out)⟩⟩
   case round =>
    clear H'
    try clear c1
    try clear p2
    try clear c6
    try clear c6b0
    try clear c6b1
    try clear c7
    try clear c10
    try clear c13
    try clear g_h
    try clear g_i
    try clear i_k
    try clear i_l
    try clear h_V
    try clear h_W
    try clear k_v
    try clear k_w
    try clear g_j
    try clear f_D
    try clear i_m
    try clear i_n
    try clear h_X
    try clear h_Y
    try clear k_x
    try clear k_y
    try clear p2
    obtain ⟨x5_2,rfl,HA,HK2,d_J,f_a,HB⟩:=hrel
    cases gk with
    | zero => exact absurd HA.out (by simp [a_z.l0])
    | succ k2 =>
     have H:=HA.out
     clear HA
     simp only [a_z.l0] at H
     by_cases c14 : x5_2 < (l0_0.length : Int)
     rotate_left
     ·rw [if_neg c14] at H
      have c14b0 : decide (x5_2 < (l0_0.length : Int)) = false:=decide_eq_false c14
      clear c14
      obtain rfl:=Option.some.inj H
      have A_5:=f_r.out
      have A_6:=f_s.out
      have t_c : wr.cell? ⟨e_9,0,none⟩ = some (.slice A0_0 l0_0.length c0_0):=(a_a d_J.out 0).trans rfl
      have t_d : wr.cell? ⟨e_9,1,none⟩ = some (.int .i64 a0_1):=(a_a d_J.out 1).trans rfl
      have t_e:=a_b d_J.out 0
      have t_f:=a_b d_J.out 1
      go_wp2
      repeat (go_quiet (fail);try go_wp2)
      go_ret
      exact ⟨by first|rfl|(simp [a_w,a_x] <;> rfl)|(simp [*, a_w,a_x] <;> rfl),by repeat (first|(with_reducible first|exact HB.out|apply a_g|apply a_f|apply a_h|refine a_d ?_ g_v.out|refine a_d ?_ k_p.out)|exact HB.out)⟩
     rw [if_pos c14] at H
     have c14b0 : decide (x5_2 < (l0_0.length : Int)) = true:=decide_eq_true c14
     clear c14
     by_cases c15 : 0 ≤ x5_2
     rotate_left
     ·rw [if_neg c15] at H
      exact absurd H (by simp)
     rw [if_pos c15] at H
     have c15b0 : decide (0 ≤ x5_2) = true:=decide_eq_true c15
     clear c15
     by_cases c16 : x5_2 < (l1_0.length : Int)
     rotate_left
     ·rw [if_neg c16] at H
      exact absurd H (by simp)
     rw [if_pos c16] at H
     have c16b0 : decide (x5_2 < (l1_0.length : Int)) = true:=decide_eq_true c16
     clear c16
     by_cases c17 : ((a_o l0_0 x5_2).f0) = ((a_o l1_0 x5_2).f0)
     rotate_left
     ·rw [if_neg c17] at H
      have c17b0 : (((a_o l0_0 x5_2).f0) == ((a_o l1_0 x5_2).f0)) = false:=beq_eq_false_iff_ne.mpr c17
      have c17b1 : (((a_o l0_0 x5_2).f0) != ((a_o l1_0 x5_2).f0)) = true:=bne_iff_ne.mpr c17
      obtain rfl:=Option.some.inj H
      have B_m:=f_r.out
      have B_n:=f_s.out
      have p_H : wr.cell? ⟨e_9,0,none⟩ = some (.slice A0_0 l0_0.length c0_0):=(a_a d_J.out 0).trans rfl
      have p_I : wr.cell? ⟨e_9,1,none⟩ = some (.int .i64 a0_1):=(a_a d_J.out 1).trans rfl
      have p_J:=a_b d_J.out 0
      have p_K:=a_b d_J.out 1
      have p242 : 0 ≤ (x5_2 : Int):=of_decide_eq_true (by first|(with_reducible assumption)|assumption)
      have q242 : x5_2 < (l0_0.length : Int):=of_decide_eq_true (by first|(with_reducible assumption)|assumption)
      obtain ⟨ad242,A242_1,c242_1,e242,f_P,f_i,g_K,g_L⟩:=c_t c_V.out x5_2 p242 q242
      cases e242
      replace f_P:=(HB.out.cell (World.block_lt_of_cell? w _ f_P)).trans f_P
      replace f_i:=(HB.out.cell (World.block_lt_of_cell? w _ f_i)).trans f_i
      have q_v:=a_e.mk g_L
      have q_w:=a_e.mk g_K
      clear g_L g_K
      replace p242:=eq_true p242
      replace q242:=eq_true q242
      have i_o : wr.cell? ⟨f_q,0,none⟩ = some (.slice A1_0 l1_0.length c1_0):=(a_a f_a.out 0).trans rfl
      have i_p : wr.cell? ⟨f_q,1,none⟩ = some (.int .i64 a1_1):=(a_a f_a.out 1).trans rfl
      have i_q:=a_b f_a.out 0
      have i_r:=a_b f_a.out 1
      have p243 : 0 ≤ (x5_2 : Int):=of_decide_eq_true (by first|(with_reducible assumption)|assumption)
      have q243 : x5_2 < (l1_0.length : Int):=of_decide_eq_true (by first|(with_reducible assumption)|assumption)
      obtain ⟨ad243,A243_1,c243_1,e243,f_Q,f_j,g_M,g_N⟩:=c_t q_u.out x5_2 p243 q243
      cases e243
      replace f_Q:=(HB.out.cell (World.block_lt_of_cell? w _ f_Q)).trans f_Q
      replace f_j:=(HB.out.cell (World.block_lt_of_cell? w _ f_j)).trans f_j
      have q_x:=a_e.mk g_N
      have q_y:=a_e.mk g_M
      clear g_N g_M
      replace p243:=eq_true p243
      replace q243:=eq_true q243
      go_wp2
      repeat (go_quiet (fail);try go_wp2)
      go_ret
      exact ⟨by first|rfl|(simp [a_w,a_x] <;> rfl)|(simp [*, a_w,a_x] <;> rfl),by repeat (first|(with_reducible first|exact HB.out|apply a_g|apply a_f|apply a_h|refine a_d ?_ g_v.out|refine a_d ?_ k_p.out)|exact HB.out)⟩
     rw [if_pos c17] at H
     have c17b0 : (((a_o l0_0 x5_2).f0) == ((a_o l1_0 x5_2).f0)) = true:=beq_iff_eq.mpr c17
     have c17b1 : (((a_o l0_0 x5_2).f0) != ((a_o l1_0 x5_2).f0)) = false:=bne_eq_false_iff_eq.mpr c17
     clear c17
     replace H:=Option.bind_eq_some_iff.mp H
     obtain ⟨t246,A180,H⟩:=H
     replace H : (if t246 = true then (a_z.l0 k2 (wrap64 (x5_2 + 1)) l0_0 a0_1 l1_0 a1_1) else (some false)) = some r:=H
     have A18:=a_e.mk A180
     clear A180
     by_cases c19 : t246 = true
     ·subst c19
      have H1 : (a_z.l0 k2 (wrap64 (x5_2 + 1)) l0_0 a0_1 l1_0 a1_1) = some r:=by rw [if_pos rfl] at H;exact H
      clear H
      have H:=H1
      clear H1
      have H':=a_e.mk H
      clear H
      have u_A:=f_r.out
      have u_B:=f_s.out
      have i_w : wr.cell? ⟨e_9,0,none⟩ = some (.slice A0_0 l0_0.length c0_0):=(a_a d_J.out 0).trans rfl
      have i_x : wr.cell? ⟨e_9,1,none⟩ = some (.int .i64 a0_1):=(a_a d_J.out 1).trans rfl
      have i_y:=a_b d_J.out 0
      have i_z:=a_b d_J.out 1
      have p242 : 0 ≤ (x5_2 : Int):=of_decide_eq_true (by first|(with_reducible assumption)|assumption)
      have q242 : x5_2 < (l0_0.length : Int):=of_decide_eq_true (by first|(with_reducible assumption)|assumption)
      obtain ⟨ad242,A242_1,c242_1,e242,f_P,f_i,g_K,g_L⟩:=c_t c_V.out x5_2 p242 q242
      cases e242
      replace f_P:=(HB.out.cell (World.block_lt_of_cell? w _ f_P)).trans f_P
      replace f_i:=(HB.out.cell (World.block_lt_of_cell? w _ f_i)).trans f_i
      have q_v:=a_e.mk g_L
      have q_w:=a_e.mk g_K
      clear g_L g_K
      replace p242:=eq_true p242
      replace q242:=eq_true q242
      have t_P : wr.cell? ⟨f_q,0,none⟩ = some (.slice A1_0 l1_0.length c1_0):=(a_a f_a.out 0).trans rfl
      have t_Q : wr.cell? ⟨f_q,1,none⟩ = some (.int .i64 a1_1):=(a_a f_a.out 1).trans rfl
      have t_R:=a_b f_a.out 0
      have t_S:=a_b f_a.out 1
      have p243 : 0 ≤ (x5_2 : Int):=of_decide_eq_true (by first|(with_reducible assumption)|assumption)
      have q243 : x5_2 < (l1_0.length : Int):=of_decide_eq_true (by first|(with_reducible assumption)|assumption)
      obtain ⟨ad243,A243_1,c243_1,e243,f_Q,f_j,g_M,g_N⟩:=c_t q_u.out x5_2 p243 q243
      cases e243
      replace f_Q:=(HB.out.cell (World.block_lt_of_cell? w _ f_Q)).trans f_Q
      replace f_j:=(HB.out.cell (World.block_lt_of_cell? w _ f_j)).trans f_j
      have q_x:=a_e.mk g_N
      have q_y:=a_e.mk g_M
      clear g_N g_M
      replace p243:=eq_true p243
      replace q243:=eq_true q243
      have p244 : 0 ≤ (x5_2 : Int):=of_decide_eq_true (by first|(with_reducible assumption)|assumption)
      have q244 : x5_2 < (l0_0.length : Int):=of_decide_eq_true (by first|(with_reducible assumption)|assumption)
      obtain ⟨ad244,A244_1,c244_1,e244,h_w,g_w,j_R,j_S⟩:=c_t c_V.out x5_2 p244 q244
      obtain rfl : ad242 = ad244:=(by injection e244)
      replace h_w:=(HB.out.cell (World.block_lt_of_cell? w _ h_w)).trans h_w
      replace g_w:=(HB.out.cell (World.block_lt_of_cell? w _ g_w)).trans g_w
      have h_x:=a_e.mk j_S
      have h_y:=a_e.mk j_R
      clear j_S j_R
      replace p244:=eq_true p244
      replace q244:=eq_true q244
      have ea_:=Option.some.inj (f_i.symm.trans g_w)
      injection ea_ with ea_ en_ ec_
      subst ea_
      subst ec_
      clear en_
      have p245 : 0 ≤ (x5_2 : Int):=of_decide_eq_true (by first|(with_reducible assumption)|assumption)
      have q245 : x5_2 < (l1_0.length : Int):=of_decide_eq_true (by first|(with_reducible assumption)|assumption)
      obtain ⟨ad245,A245_1,c245_1,e245,h_z,g_x,j_T,j_U⟩:=c_t q_u.out x5_2 p245 q245
      obtain rfl : ad243 = ad245:=(by injection e245)
      replace h_z:=(HB.out.cell (World.block_lt_of_cell? w _ h_z)).trans h_z
      replace g_x:=(HB.out.cell (World.block_lt_of_cell? w _ g_x)).trans g_x
      have h_A:=a_e.mk j_U
      have h_B:=a_e.mk j_T
      clear j_U j_T
      replace p245:=eq_true p245
      replace q245:=eq_true q245
      have ea_:=Option.some.inj (f_j.symm.trans g_x)
      injection ea_ with ea_ en_ ec_
      subst ea_
      subst ec_
      clear en_
      go_wp2_with (first|(go_at_call 27;(with_reducible refine (a_D.calls k2 _ _ ((a_o l0_0 x5_2).f1) _ _ ((a_o l1_0 x5_2).f1) true _ ?side1 ?side2 ?side3 ?side4 A18.out).mono ?_);(case side1 => repeat (first|exact (Kd.b_f h_x.out HB.out)|(with_reducible refine Kd.a_9 ?_ _)|(with_reducible refine Kd.a_8 ?_ _)|(with_reducible refine Kd.b_i ?_)));(case side2 => exact h_y.out);(case side3 => repeat (first|exact (Kd.b_f h_A.out HB.out)|(with_reducible refine Kd.a_9 ?_ _)|(with_reducible refine Kd.a_8 ?_ _)|(with_reducible refine Kd.b_i ?_)));(case side4 => exact h_B.out);rintro e w' ⟨rfl,⟨nd,rfl⟩⟩;(try first|exact ⟨rfl,_,World.drewN_drewN _ _ _⟩|exact ⟨rfl,_,Eq.trans (World.drewN_drewN _ _ _) (congrArg (World.drewN _) (Nat.add_assoc _ _ _))⟩)))
      repeat (go_quiet (first|(go_at_call 27;(with_reducible refine (a_D.calls k2 _ _ ((a_o l0_0 x5_2).f1) _ _ ((a_o l1_0 x5_2).f1) true _ ?side1 ?side2 ?side3 ?side4 A18.out).mono ?_);(case side1 => repeat (first|exact (Kd.b_f h_x.out HB.out)|(with_reducible refine Kd.a_9 ?_ _)|(with_reducible refine Kd.a_8 ?_ _)|(with_reducible refine Kd.b_i ?_)));(case side2 => exact h_y.out);(case side3 => repeat (first|exact (Kd.b_f h_A.out HB.out)|(with_reducible refine Kd.a_9 ?_ _)|(with_reducible refine Kd.a_8 ?_ _)|(with_reducible refine Kd.b_i ?_)));(case side4 => exact h_B.out);rintro e w' ⟨rfl,⟨nd,rfl⟩⟩;(try first|exact ⟨rfl,_,World.drewN_drewN _ _ _⟩|exact ⟨rfl,_,Eq.trans (World.drewN_drewN _ _ _) (congrArg (World.drewN _) (Nat.add_assoc _ _ _))⟩)));try go_wp2_with (first|(go_at_call 27;(with_reducible refine (a_D.calls k2 _ _ ((a_o l0_0 x5_2).f1) _ _ ((a_o l1_0 x5_2).f1) true _ ?side1 ?side2 ?side3 ?side4 A18.out).mono ?_);(case side1 => repeat (first|exact (Kd.b_f h_x.out HB.out)|(with_reducible refine Kd.a_9 ?_ _)|(with_reducible refine Kd.a_8 ?_ _)|(with_reducible refine Kd.b_i ?_)));(case side2 => exact h_y.out);(case side3 => repeat (first|exact (Kd.b_f h_A.out HB.out)|(with_reducible refine Kd.a_9 ?_ _)|(with_reducible refine Kd.a_8 ?_ _)|(with_reducible refine Kd.b_i ?_)));(case side4 => exact h_B.out);rintro e w' ⟨rfl,⟨nd,rfl⟩⟩;(try first|exact ⟨rfl,_,World.drewN_drewN _ _ _⟩|exact ⟨rfl,_,Eq.trans (World.drewN_drewN _ _ _) (congrArg (World.drewN _) (Nat.add_assoc _ _ _))⟩))))
      go_roundg k2
      case measure => have:=HJ2.out;have:=HK2.out;omega
      case rel => exact ⟨(wrap64 (x5_2 + 1)),(by first|rfl|(simp;done)|(simp [*];done)),H',⟨by have:=HJ2.out;have:=HK2.out;omega⟩,⟨by (with_reducible repeat (first|refine a_j ?_ _|refine a_k ?_|refine a_i ?_ _));exact d_J.out⟩,⟨by (with_reducible repeat (first|refine a_j ?_ _|refine a_k ?_|refine a_i ?_ _));exact f_a.out⟩,⟨by repeat (first|(with_reducible first|exact HB.out|apply a_g|apply a_f|apply a_h|refine a_d ?_ g_v.out|refine a_d ?_ k_p.out)|exact HB.out)⟩⟩
     replace c19:=Bool.eq_false_iff.mpr c19
     subst c19
     have H1 : (some false) = some r:=by rw [if_neg (show ¬ (false = true) by decide)] at H;exact H
     clear H
     have H:=H1
     clear H1
     obtain rfl:=Option.some.inj H
     have w_E:=f_r.out
     have w_F:=f_s.out
     have k_Y : wr.cell? ⟨e_9,0,none⟩ = some (.slice A0_0 l0_0.length c0_0):=(a_a d_J.out 0).trans rfl
     have k_Z : wr.cell? ⟨e_9,1,none⟩ = some (.int .i64 a0_1):=(a_a d_J.out 1).trans rfl
     have k_0:=a_b d_J.out 0
     have k_1:=a_b d_J.out 1
     have p242 : 0 ≤ (x5_2 : Int):=of_decide_eq_true (by first|(with_reducible assumption)|assumption)
     have q242 : x5_2 < (l0_0.length : Int):=of_decide_eq_true (by first|(with_reducible assumption)|assumption)
     obtain ⟨ad242,A242_1,c242_1,e242,f_P,f_i,g_K,g_L⟩:=c_t c_V.out x5_2 p242 q242
     cases e242
     replace f_P:=(HB.out.cell (World.block_lt_of_cell? w _ f_P)).trans f_P
     replace f_i:=(HB.out.cell (World.block_lt_of_cell? w _ f_i)).trans f_i
     have q_v:=a_e.mk g_L
     have q_w:=a_e.mk g_K
     clear g_L g_K
     replace p242:=eq_true p242
     replace q242:=eq_true q242
     have m_n : wr.cell? ⟨f_q,0,none⟩ = some (.slice A1_0 l1_0.length c1_0):=(a_a f_a.out 0).trans rfl
     have m_o : wr.cell? ⟨f_q,1,none⟩ = some (.int .i64 a1_1):=(a_a f_a.out 1).trans rfl
     have m_p:=a_b f_a.out 0
     have m_q:=a_b f_a.out 1
     have p243 : 0 ≤ (x5_2 : Int):=of_decide_eq_true (by first|(with_reducible assumption)|assumption)
     have q243 : x5_2 < (l1_0.length : Int):=of_decide_eq_true (by first|(with_reducible assumption)|assumption)
     obtain ⟨ad243,A243_1,c243_1,e243,f_Q,f_j,g_M,g_N⟩:=c_t q_u.out x5_2 p243 q243
     cases e243
     replace f_Q:=(HB.out.cell (World.block_lt_of_cell? w _ f_Q)).trans f_Q
     replace f_j:=(HB.out.cell (World.block_lt_of_cell? w _ f_j)).trans f_j
     have q_x:=a_e.mk g_N
     have q_y:=a_e.mk g_M
     clear g_N g_M
     replace p243:=eq_true p243
     replace q243:=eq_true q243
     have p244 : 0 ≤ (x5_2 : Int):=of_decide_eq_true (by first|(with_reducible assumption)|assumption)
     have q244 : x5_2 < (l0_0.length : Int):=of_decide_eq_true (by first|(with_reducible assumption)|assumption)
     obtain ⟨ad244,A244_1,c244_1,e244,h_w,g_w,j_R,j_S⟩:=c_t c_V.out x5_2 p244 q244
     obtain rfl : ad242 = ad244:=(by injection e244)
     replace h_w:=(HB.out.cell (World.block_lt_of_cell? w _ h_w)).trans h_w
     replace g_w:=(HB.out.cell (World.block_lt_of_cell? w _ g_w)).trans g_w
     have h_x:=a_e.mk j_S
     have h_y:=a_e.mk j_R
     clear j_S j_R
     replace p244:=eq_true p244
     replace q244:=eq_true q244
     have ea_:=Option.some.inj (f_i.symm.trans g_w)
     injection ea_ with ea_ en_ ec_
     subst ea_
     subst ec_
     clear en_
     have p245 : 0 ≤ (x5_2 : Int):=of_decide_eq_true (by first|(with_reducible assumption)|assumption)
     have q245 : x5_2 < (l1_0.length : Int):=of_decide_eq_true (by first|(with_reducible assumption)|assumption)
     obtain ⟨ad245,A245_1,c245_1,e245,h_z,g_x,j_T,j_U⟩:=c_t q_u.out x5_2 p245 q245
     obtain rfl : ad243 = ad245:=(by injection e245)
     replace h_z:=(HB.out.cell (World.block_lt_of_cell? w _ h_z)).trans h_z
     replace g_x:=(HB.out.cell (World.block_lt_of_cell? w _ g_x)).trans g_x
     have h_A:=a_e.mk j_U
     have h_B:=a_e.mk j_T
     clear j_U j_T
     replace p245:=eq_true p245
     replace q245:=eq_true q245
     have ea_:=Option.some.inj (f_j.symm.trans g_x)
     injection ea_ with ea_ en_ ec_
     subst ea_
     subst ec_
     clear en_
     go_wp2_with (first|(go_at_call 27;(with_reducible refine (a_D.calls k2 _ _ ((a_o l0_0 x5_2).f1) _ _ ((a_o l1_0 x5_2).f1) false _ ?side1 ?side2 ?side3 ?side4 A18.out).mono ?_);(case side1 => repeat (first|exact (Kd.b_f h_x.out HB.out)|(with_reducible refine Kd.a_9 ?_ _)|(with_reducible refine Kd.a_8 ?_ _)|(with_reducible refine Kd.b_i ?_)));(case side2 => exact h_y.out);(case side3 => repeat (first|exact (Kd.b_f h_A.out HB.out)|(with_reducible refine Kd.a_9 ?_ _)|(with_reducible refine Kd.a_8 ?_ _)|(with_reducible refine Kd.b_i ?_)));(case side4 => exact h_B.out);rintro e w' ⟨rfl,⟨nd,rfl⟩⟩;(try first|exact ⟨rfl,_,World.drewN_drewN _ _ _⟩|exact ⟨rfl,_,Eq.trans (World.drewN_drewN _ _ _) (congrArg (World.drewN _) (Nat.add_assoc _ _ _))⟩)))
     repeat (go_quiet (first|(go_at_call 27;(with_reducible refine (a_D.calls k2 _ _ ((a_o l0_0 x5_2).f1) _ _ ((a_o l1_0 x5_2).f1) false _ ?side1 ?side2 ?side3 ?side4 A18.out).mono ?_);(case side1 => repeat (first|exact (Kd.b_f h_x.out HB.out)|(with_reducible refine Kd.a_9 ?_ _)|(with_reducible refine Kd.a_8 ?_ _)|(with_reducible refine Kd.b_i ?_)));(case side2 => exact h_y.out);(case side3 => repeat (first|exact (Kd.b_f h_A.out HB.out)|(with_reducible refine Kd.a_9 ?_ _)|(with_reducible refine Kd.a_8 ?_ _)|(with_reducible refine Kd.b_i ?_)));(case side4 => exact h_B.out);rintro e w' ⟨rfl,⟨nd,rfl⟩⟩;(try first|exact ⟨rfl,_,World.drewN_drewN _ _ _⟩|exact ⟨rfl,_,Eq.trans (World.drewN_drewN _ _ _) (congrArg (World.drewN _) (Nat.add_assoc _ _ _))⟩)));try go_wp2_with (first|(go_at_call 27;(with_reducible refine (a_D.calls k2 _ _ ((a_o l0_0 x5_2).f1) _ _ ((a_o l1_0 x5_2).f1) false _ ?side1 ?side2 ?side3 ?side4 A18.out).mono ?_);(case side1 => repeat (first|exact (Kd.b_f h_x.out HB.out)|(with_reducible refine Kd.a_9 ?_ _)|(with_reducible refine Kd.a_8 ?_ _)|(with_reducible refine Kd.b_i ?_)));(case side2 => exact h_y.out);(case side3 => repeat (first|exact (Kd.b_f h_A.out HB.out)|(with_reducible refine Kd.a_9 ?_ _)|(with_reducible refine Kd.a_8 ?_ _)|(with_reducible refine Kd.b_i ?_)));(case side4 => exact h_B.out);rintro e w' ⟨rfl,⟨nd,rfl⟩⟩;(try first|exact ⟨rfl,_,World.drewN_drewN _ _ _⟩|exact ⟨rfl,_,Eq.trans (World.drewN_drewN _ _ _) (congrArg (World.drewN _) (Nat.add_assoc _ _ _))⟩))))
     go_ret
     exact ⟨by first|rfl|(simp [a_w,a_x] <;> rfl)|(simp [*, a_w,a_x] <;> rfl),by repeat (first|(with_reducible first|exact HB.out|apply a_g|apply a_f|apply a_h|refine a_d ?_ g_v.out|refine a_d ?_ k_p.out)|exact HB.out)⟩
end Go.Proofs.Ytgglkfilkagblaa.Q
end
section
namespace Go.Proofs.Ytgglkfilkagblaa.Q
open Go.RowKit Go.Proofs.YtgglkfilkagblaaW.PrintWords Go.Proofs.YtgglkfilkagblaaW.PrintLast Go.Proofs.YtgglkfilkagblaaW.PrintMore
set_option linter.unusedVariables false
set_option linter.unusedSimpArgs false
theorem A_d (d : Nat) (w : World) (x0 y0 : Int) (x1 y1 : Int) :
 (Op.equalIn (d + 2) 46 (.agg #[.int .i64 x0,.int .i64 x1]) (.agg #[.int .i64 y0,.int .i64 y1])).run Try.prog w = .ok (x0 == y0 && (x1 == y1)) w:=by
 refine r_P Try.underlying46 (by kernel_rfl) ?_
 refine e_R (by rfl) (by go_simp;rfl) (by go_simp;rfl) (by go_simp) ?_
 exact n_y (by rfl) (by go_simp;rfl) (by go_simp;rfl) (by go_simp)
end Go.Proofs.Ytgglkfilkagblaa.Q
end
section
namespace Go.Proofs.Ytgglkfilkagblaa.Q
open Go.RowKit Go.Proofs.YtgglkfilkagblaaW.PrintWords Go.Proofs.YtgglkfilkagblaaW.PrintLast Go.Proofs.YtgglkfilkagblaaW.PrintMore
set_option linter.unusedVariables false
set_option linter.unusedSimpArgs false
def f_C.f (l0_0 : List (S27)) (a0_1 : Int) (a1 : Int) : Option (Int):=if (wrap64 (a1 + 1)) < (l0_0.length : Int) then (if 0 ≤ (wrap64 (a1 + 1)) then (some ((a_o l0_0 (wrap64 (a1 + 1))).f0)) else (none)) else (some a0_1)
set_option maxHeartbeats 8000000 in
set_option maxRecDepth 100000 in
theorem f_C.calls (A0_0 : Option Addr) (c0_0 : Nat) (l0_0 : List (S27)) (a0_1 : Int) (a1 : Int) (r : Int) (w : World) (hr0_0 : Kd.C k27 w A0_0 l0_0.length l0_0) (hc0_0 : l0_0.length ≤ c0_0) (h : f_C.f l0_0 a0_1 a1 = some r) :
 Calls Try.prog 37 #[.agg #[.slice A0_0 l0_0.length c0_0,.int .i64 a0_1],.int .i64 a1] w fun e w' => e = .returned (.int .i64 r) ∧ Below w.heap.size w w':=by
 have hu24:=Try.underlying24
 have c_V:=a_e.mk hr0_0
 have f_w:=a_e.mk hc0_0
 clear hr0_0 hc0_0
 have HB:=a_e.mk (Below.refl w.heap.size w)
 have H : (if (wrap64 (a1 + 1)) < (l0_0.length : Int) then (if 0 ≤ (wrap64 (a1 + 1)) then (some ((a_o l0_0 (wrap64 (a1 + 1))).f0)) else (none)) else (some a0_1)) = some r:=h
 clear h
 by_cases c3 : (wrap64 (a1 + 1)) < (l0_0.length : Int)
 rotate_left
 ·rw [if_neg c3] at H
  have c3b0 : decide ((wrap64 (a1 + 1)) < (l0_0.length : Int)) = false:=decide_eq_false c3
  clear c3
  obtain rfl:=Option.some.inj H
  go_enter Try.func37,Try.ntmps37
  go_wp2_with (first|((with_reducible refine a_U (N:=2) rfl ?_);refine a_H ?hg (N:=2) ?hd (cs:=#[.slice A0_0 l0_0.length c0_0,.int .i64 a0_1]) (t:=24) ?hr ?_;(case hd => rfl);(case hg => rfl);(case hr => first|(go_simp;done)|(go_simp;rfl));intro l_i hg w8 hbox hb;have l_j:=a_e.mk (hbox);have H_T:=a_e.mk ((by rw [hg];exact (a_p (lup_ HB.out)) : w.heap.size ≤ l_i));have u_X:=a_e.mk ((by rw [hg];exact (a_p (lup_ HB.out)) : w.heap.size ≤ l_i));replace HB:=a_e.mk (a_t (lup_ HB.out) hb);clear hb hbox hg;have k_v : w8.cell? ⟨l_i,0,none⟩ = some (.slice A0_0 l0_0.length c0_0):=(a_a l_j.out 0).trans rfl;have k_w : w8.cell? ⟨l_i,1,none⟩ = some (.int .i64 a0_1):=(a_a l_j.out 1).trans rfl;have k_x:=a_b l_j.out 0;have k_y:=a_b l_j.out 1))
  go_ret
  exact ⟨by first|rfl|(simp [a_w,a_x] <;> rfl)|(simp [*, a_w,a_x] <;> rfl),by repeat (first|(with_reducible first|exact HB.out|apply a_g|apply a_f|apply a_h|refine a_d ?_ u_X.out)|exact HB.out)⟩
 rw [if_pos c3] at H
 have c3b0 : decide ((wrap64 (a1 + 1)) < (l0_0.length : Int)) = true:=decide_eq_true c3
 clear c3
 obtain ⟨ji4,hji4⟩ : ∃ j_ : Int,(wrap64 (a1 + 1)) = j_:=⟨_,rfl⟩
 replace H : (if 0 ≤ (ji4) then (some ((a_o l0_0 (ji4)).f0)) else (none)) = some r:=by first|(rw [hji4] at H;exact H)|(simp only [hji4] at H ⊢; exact H)
 (try rw [hji4] at c3b0)
 have hji4w : (IntKind.i64.wrap (a1 + 1)) = ji4:=(a_r _).trans hji4
 by_cases c5 : 0 ≤ (ji4)
 rotate_left
 ·rw [if_neg c5] at H
  exact absurd H (by simp)
 rw [if_pos c5] at H
 have c5b0 : decide (0 ≤ (ji4)) = true:=decide_eq_true c5
 clear c5
 obtain rfl:=Option.some.inj H
 go_enter Try.func37,Try.ntmps37
 go_wp2_with (first|((with_reducible refine a_U (N:=2) rfl ?_);refine a_H ?hg (N:=2) ?hd (cs:=#[.slice A0_0 l0_0.length c0_0,.int .i64 a0_1]) (t:=24) ?hr ?_;(case hd => rfl);(case hg => rfl);(case hr => first|(go_simp;done)|(go_simp;rfl));intro l_i hg w6 hbox hb;have l_j:=a_e.mk (hbox);have H_T:=a_e.mk ((by rw [hg];exact (a_p (lup_ HB.out)) : w.heap.size ≤ l_i));have u_X:=a_e.mk ((by rw [hg];exact (a_p (lup_ HB.out)) : w.heap.size ≤ l_i));replace HB:=a_e.mk (a_t (lup_ HB.out) hb);clear hb hbox hg;have h_R : w6.cell? ⟨l_i,0,none⟩ = some (.slice A0_0 l0_0.length c0_0):=(a_a l_j.out 0).trans rfl;have h_S : w6.cell? ⟨l_i,1,none⟩ = some (.int .i64 a0_1):=(a_a l_j.out 1).trans rfl;have h_T:=a_b l_j.out 0;have h_U:=a_b l_j.out 1;have p344 : 0 ≤ ((ji4) : Int):=of_decide_eq_true (by first|(with_reducible assumption)|assumption);have q344 : (ji4) < (l0_0.length : Int):=of_decide_eq_true (by first|(with_reducible assumption)|assumption);obtain ⟨ad344,A344_1,c344_1,e344,n_f,n_g,q_z,q_A⟩:=c_t c_V.out (ji4) p344 q344;cases e344;replace n_f:=(HB.out.cell (World.block_lt_of_cell? w _ n_f)).trans n_f;replace n_g:=(HB.out.cell (World.block_lt_of_cell? w _ n_g)).trans n_g;have H_U:=a_e.mk q_A;have H_V:=a_e.mk q_z;clear q_A q_z;replace p344:=eq_true p344;replace q344:=eq_true q344))
 go_ret
 exact ⟨by first|rfl|(simp [a_w,a_x] <;> rfl)|(simp only [← hji4];first|rfl|(simp [a_w,a_x] <;> rfl))|(simp [*, a_w,a_x] <;> rfl),by repeat (first|(with_reducible first|exact HB.out|apply a_g|apply a_f|apply a_h|refine a_d ?_ u_X.out)|exact HB.out)⟩
end Go.Proofs.Ytgglkfilkagblaa.Q
end
section
namespace Go.Proofs.Ytgglkfilkagblaa.Q
open Go.RowKit Go.Proofs.YtgglkfilkagblaaW.PrintWords Go.Proofs.YtgglkfilkagblaaW.PrintLast Go.Proofs.YtgglkfilkagblaaW.PrintMore
set_option linter.unusedVariables false
set_option linter.unusedSimpArgs false
section
attribute [local go_sem] Oper.semAt_some
def c_U (xs : List S27) (en : Int) (j : Nat) : Int:=if j + 1 < xs.length then (a_o xs ((j + 1 : Nat) : Int)).f0 else en
theorem r_b (xs : List S27) (en : Int) (j : Nat) (hj : j < xs.length) (hl : xs.length ≤ 4398046511104) : f_C.f xs en (j : Int) = some (c_U xs en j):=by
 have h1 : wrap64 ((j : Int) + 1) = ((j + 1 : Nat) : Int):=by unfold wrap64;omega
 unfold f_C.f c_U
 rw [h1]
 by_cases h : j + 1 < xs.length
 ·rw [if_pos (show ((j + 1 : Nat) : Int) < (xs.length : Int) by omega),if_pos h,if_pos (by omega)]
 rw [if_neg (show ¬ ((j + 1 : Nat) : Int) < (xs.length : Int) by omega),if_neg h]
theorem z_0 {W w1 : World} (hb : Below W.heap.size W w1) : (∀ b o,b < W.heap.size → w1.cell? ⟨b,o,none⟩ = W.cell? ⟨b,o,none⟩) ∧ (∀ b o,b < W.heap.size → w1.frozen? ⟨b,o,none⟩ = W.frozen? ⟨b,o,none⟩) :=
 ⟨fun b o h => hb.cell (p:=⟨b,o,none⟩) h,fun b o h => hb.frozen (p:=⟨b,o,none⟩) h⟩
theorem o_B {P : Program} {m l : Nat} {fn : FuncId} {tmps : Array Value} {assign body : Code} {W : World} {A B : World → Prop} (h : RoundIn Fence.wide m P l fn tmps assign body W fun e W' => (e = .returned (.bool true) ∧ A W') ∨ (e = .returned (.bool false) ∧ B W')) :
 RoundIn Fence.wide m P l fn tmps assign body W fun e W' => ∃ b : Bool,e = .returned (.bool b) ∧ a_e ((b = true → A W') ∧ (b = false → B W')) :=
 h.mono fun e W' h => by
  rcases h with ⟨rfl,h⟩ | ⟨rfl,h⟩
  ·exact ⟨true,rfl,⟨⟨fun _ => h,(fun h => by cases h)⟩⟩⟩
  ·exact ⟨false,rfl,⟨⟨(fun h => by cases h),fun _ => h⟩⟩⟩
theorem AbidesFrom.below {β : Type} {B : Nat} {J : β → World → Prop} (h : AbidesFrom B J) {s : β} {A C : World} (hs : J s A) (hb : Below A.heap.size A C) : J s C :=
 h s A C none hs ⟨hb.os,hb.tape,hb.output,hb.size,fun k hk _ => hb.block k hk⟩ (fun r e => by cases e)
def KpB (n₀ g : Nat) (A C : World) : Prop:=Below n₀ A C ∧ C.heap[g]? = A.heap[g]?
def momV (xs : List S27) (am : Nat → Option Addr) (cm : Nat → Nat) (j : Nat) : Value:=.agg #[.int .i64 (a_o xs (j : Int)).f0,.slice (am j) (a_o xs (j : Int)).f1.length (cm j)]
def i_H (xs : List S27) (ad : Addr) (am : Nat → Option Addr) (cm : Nat → Nat) (W : World) : Prop := ∀ j,j < xs.length → W.cell? (ad.add (j * 2)) = some (.int .i64 (a_o xs (j : Int)).f0) ∧ W.cell? ⟨(ad.add (j * 2)).block,(ad.add (j * 2)).off + 1,none⟩ = some (.slice (am j) (a_o xs (j : Int)).f1.length (cm j)) ∧ (a_o xs (j : Int)).f1.length ≤ cm j ∧ Kd.C k65 W (am j) (a_o xs (j : Int)).f1.length (a_o xs (j : Int)).f1
theorem l_x {A : Option Addr} {xs : List S27} {w : World} (h : Kd.C k27 w A xs.length xs) (hp : 0 < xs.length) : ∃ ad am cm,A = some ad ∧ i_H xs ad am cm w:=by
 obtain ⟨ad,A1,c1,e,_⟩:=c_t h 0 (Int.le_refl _) (by omega)
 have key : ∀ j, ∃ p : Option Addr × Nat,j < xs.length → w.cell? (ad.add (j * 2)) = some (.int .i64 (a_o xs (j : Int)).f0) ∧ w.cell? ⟨(ad.add (j * 2)).block,(ad.add (j * 2)).off + 1,none⟩ = some (.slice p.1 (a_o xs (j : Int)).f1.length p.2) ∧ (a_o xs (j : Int)).f1.length ≤ p.2 ∧ Kd.C k65 w p.1 (a_o xs (j : Int)).f1.length (a_o xs (j : Int)).f1:=fun j => by
  by_cases hj : j < xs.length
  ·obtain ⟨ad',A1,c1,e',h0,h1,h2,h3⟩:=c_t h (j : Int) (by omega) (by omega)
   obtain rfl : ad = ad':=by rw [e] at e';injection e'
   exact ⟨(A1,c1),fun _ => ⟨h0,h1,h2,h3⟩⟩
  exact ⟨(none,0),fun h => absurd h hj⟩
 exact ⟨ad,fun j => (key j).choose.1,fun j => (key j).choose.2,e,fun j hj => (key j).choose_spec hj⟩
theorem i_H.below {xs : List S27} {ad : Addr} {am : Nat → Option Addr} {cm : Nat → Nat} {n₀ : Nat} {w W : World} (hw : i_H xs ad am cm w) (hn : n₀ = w.heap.size) (hb : Below n₀ w W) : i_H xs ad am cm W:=fun j hj => by
 obtain ⟨h0,h1,h2,h3⟩:=hw j hj
 subst hn
 exact ⟨(hb.cell (World.block_lt_of_cell? w _ h0)).trans h0,(hb.cell (World.block_lt_of_cell? w _ h1)).trans h1,h2,Kd.b_f h3 hb⟩
set_option maxHeartbeats 1000000 in
theorem l_G.calls (A : Option Addr) (n c : Nat) (en : Int) (w : World) :
 Calls Try.prog 28 #[.agg #[.slice A n c,.int .i64 en]] w fun e w' => e = .returned (.func (.func 55) #[] #[.pointer (some ⟨w.heap.size,0,none⟩)]) ∧ w' = w.alloc (.cells #[.slice A n c,.int .i64 en] 24):=by
 go_enter Try.func28,Try.ntmps28
 go_wp2
 go_ret
 exact ⟨rfl,rfl⟩
set_option maxRecDepth 100000 in
set_option maxHeartbeats 4000000 in
theorem h_M (n : Nat) (hn : 2 ≤ n) (l g n₀ : Nat) (A : Option Addr) (ad : Addr) (c : Nat) (xs : List S27) (en : Int) (hl : xs.length ≤ 4398046511104) (am : Nat → Option Addr) (cm : Nat → Nat) (J Jx : List (Fin xs.length) → World → Prop)
 (hY : ∀ pre (x : Fin xs.length) W,J pre W → pre.length < xs.length → YieldAt Fence.wide (n - 1) Try.prog l #[momV xs am cm x.val,.agg #[.int .i64 (a_o xs (x.val : Int)).f0,.int .i64 (c_U xs en x.val)]] W fun e W' =>
  (e = .returned (.bool true) ∧ J (pre ++ [x]) W' ∧ KpB n₀ g W W') ∨ (e = .returned (.bool false) ∧ Jx (pre ++ [x]) W'))
 (w W : World) (hJ : AbidesFrom W.heap.size J) (hn₀ : n₀ = w.heap.size) (hW : Below n₀ w W) (hA : 0 < xs.length → A = some ad) (hg : W.heap[g]? = some (.cells #[.slice A xs.length c,.int .i64 en] 24 (0,0))) (hM : i_H xs ad am cm w) (hc : xs.length ≤ c) (hC : Kd.C k27 w A xs.length xs) (h0 : J [] W) :
 CallsIn Fence.wide n Try.prog 55 #[.func (.yield l) #[] #[],.pointer (some ⟨g,0,none⟩)] W fun e W' => (∃ v,e = .returned v) ∧
  ((∃ ys,ys = List.finRange xs.length ∧ J ys W') ∨ (∃ pre,True ∧ Jx pre W')):=by
 subst hn₀
 have hd : 1 ≤ n - 1:=by omega
 have hmx : Try.prog.follows .mixedOrders = true:=by kernel_rfl
 refine callsIn_of_wp Try.func55 rfl trivial ?_ rfl
 simp only [Try.ntmps55,List.size_toArray,List.length_cons,List.length_nil,Nat.reduceAdd,Nat.reduceSub,Array.replicate_succ,Array.replicate_zero,List.push_toArray,List.append_toArray,List.nil_append,List.cons_append]
 have hg0 : W.cell? ⟨g,0,none⟩ = some (.slice A xs.length c):=(a_a hg 0).trans rfl
 have HY:=a_e.mk hY
 have HJ:=a_e.mk hJ
 have HM:=a_e.mk hM
 have HC:=a_e.mk hC
 have HG:=a_e.mk hg
 have HW:=a_e.mk hW
 have H0:=a_e.mk h0
 have HA:=a_e.mk hA
 clear hY hJ hM hC hg hW h0 hA
 gi_wp2
 gi_loopw [8] (fun i wr => ∃ k : Nat,k ≤ xs.length ∧ i = .int .i64 k ∧ a_e (J ((List.finRange xs.length).take k) wr) ∧ a_e (Below w.heap.size w wr) ∧ a_e (wr.heap[g]? = some (.cells #[.slice A xs.length c,.int .i64 en] 24 (0,0))) ∧ a_e (W.heap.size ≤ wr.heap.size))
  (fun i _ => xs.length - (intOf i).toNat)
 case atStart => exact ⟨0,Nat.zero_le _,rfl,⟨H0.out⟩,⟨HW.out⟩,⟨HG.out⟩,⟨Nat.le_refl _⟩⟩
 case round =>
  obtain ⟨k,hk,rfl,HJs,HB,HG2,HS⟩:=hrel
  by_cases hlt : k < xs.length
  rotate_left
  ·obtain rfl : k = xs.length:=by omega
   gi_wp2
   go_end0
   exact ⟨⟨_,rfl⟩,.inl ⟨_,rfl,by have:=HJs.out;rwa [List.take_of_length_le (by simp)] at this⟩⟩
  have hAe:=HA.out (by omega)
  subst hAe
  have hkc:=HM.out k hlt
  have hmom:=i_H.below HM.out rfl HB.out k hlt
  obtain ⟨e0,e1,_,_⟩:=hmom
  have hfr : (List.finRange xs.length)[k]'(by simpa using hlt) = ⟨k,hlt⟩:=by simp
  have htk : (List.finRange xs.length).take (k + 1) = (List.finRange xs.length).take k ++ [⟨k,hlt⟩]:=by rw [List.take_succ_eq_append_getElem (by simpa using hlt),hfr]
  have HT:=a_e.mk htk
  have hltz : (k : Int) < (xs.length : Int):=by omega
  have hgl:=a_N HG2.out
  have hgc0 : wr.cell? ⟨g,0,none⟩ = some (.slice (some ad) xs.length c):=(a_a HG2.out 0).trans rfl
  have hgc1 : wr.cell? ⟨g,1,none⟩ = some (.int .i64 en):=(a_a HG2.out 1).trans rfl
  clear hkc htk hfr
  gi_wp2
  have hf37 : Fence.wide.fn 37:=trivial
  have hn1 : 1 ≤ n:=by omega
  have hU:=r_b xs en k hlt hl
  have HU:=a_e.mk hU
  clear hU
  gi_region_with_o (first|(gi_at_call 37;refine (callsIn_wide.2 (f_C.calls _ _ xs en _ _ _ ?s1 hc HU.out)).mono ?_;(case s1 => exact Kd.b_f HC.out (HB.out.trans (Below.mono (by repeat (with_reducible first|exact Below.refl _ _|apply a_g|apply a_h|refine a_d ?_ (Nat.le_refl _))) HB.out.size)));rintro e w' ⟨rfl,hb⟩;have hx : Below wr.heap.size wr w':=Below.trans (by repeat (with_reducible first|exact Below.refl _ _|apply a_g|apply a_h|refine a_d ?_ (Nat.le_refl _))) (hb.mono (a_p (by repeat (with_reducible first|exact Below.refl _ _|apply a_g|apply a_h|refine a_d ?_ (Nat.le_refl _)))));have HX:=a_e.mk hx;clear hx;obtain ⟨hb1,hb2⟩:=z_0 hb;have hbz:=hb.size;clear hb;obtain ⟨fn,tmps,assign,body,hy,hR⟩:=HY.out _ ⟨k,hlt⟩ w' (AbidesFrom.below HJ.out HJs.out HX.out) (by rw [List.length_take,List.length_finRange];omega);have HR:=a_e.mk (o_B hR);clear hR;simp only [momV] at hy)|(refine HR.out.mono ?_;rintro e W3 ⟨bb,rfl,HBB⟩))
  all_goals
   cases bb with
   | true =>
    have HK3:=a_e.mk (HBB.out.1 rfl)
    clear HBB
    gi_wp2
    (try go_bits)
    go_roundw
    case rel => exact ⟨k + 1,by omega,by go_num,⟨by rw [HT.out];exact HK3.out.1⟩,⟨(HB.out.trans (HX.out.mono HB.out.size)).trans HK3.out.2.1⟩,⟨HK3.out.2.2.trans (a_l HG2.out HX.out)⟩,⟨Nat.le_trans HS.out (Nat.le_trans HX.out.size HK3.out.2.1.size)⟩⟩
    case measure => simp [intOf];omega
   | false =>
    have HK3:=a_e.mk (HBB.out.2 rfl)
    clear HBB
    gi_wp2
    (try go_bits)
    refine bodyPost_ret (results_none rfl _ _ _) rfl ?_
    exact ⟨⟨_,rfl⟩,.inr ⟨_,trivial,HK3.out⟩⟩
end
end Go.Proofs.Ytgglkfilkagblaa.Q
end
section
namespace Go.Proofs.Ytgglkfilkagblaa.Q
open Go.RowKit Go.Proofs.YtgglkfilkagblaaW.PrintWords Go.Proofs.YtgglkfilkagblaaW.PrintLast Go.Proofs.YtgglkfilkagblaaW.PrintMore
set_option linter.unusedVariables false
set_option linter.unusedSimpArgs false
set_option maxHeartbeats 2000000 in
theorem g_E.any (g : Nat) (lb : Array Value) (eg : ∀ args w,(callFunc g args).run Try.prog w = .ok (.enter g args) w) (p : S65 → Bool) (A : Option Addr) (c : Nat) (xs : List S65) (w : World)
 (hr : Kd.C k65 w A xs.length xs) (hlen : xs.length ≤ 1099511627776)
 (hp : ∀ W,Below w.heap.size w W → ∀ x ∈ xs,Calls Try.prog g (#[.agg #[.int .i64 x.f0,.int .i64 x.f1,.int .i64 x.f2,.int .i64 x.f3,.int .i64 x.f4,.bool x.f5,.bool x.f6,.int .u32 x.f7,.int .i64 x.f8,.int .i64 x.f9,.int .i64 x.f10]] ++ lb) W fun e W' => e = .returned (.bool (p x)) ∧ Below W.heap.size W W') :
 Calls Try.prog 36 #[.slice A xs.length c,.func (.func g) #[] lb] w fun e w' => e = .returned (.int .i64 (idxOf p xs)) ∧ Below w.heap.size w w':=by
 have HP:=a_e.mk hp
 have HR:=a_e.mk hr
 clear hp hr
 go_enter Try.func36,Try.ntmps36
 go_wp2
 go_loopg [5,8] xs.length (fun gg _ s8 wr => ∃ kk : Nat,s8 = .int .i64 kk ∧ kk ≤ xs.length ∧ xs.length - kk ≤ gg ∧ a_e (Below w.heap.size w wr) ∧ a_e (∀ j (hj : j < kk) (hj2 : j < xs.length),p xs[j] = false))
 case atStart => exact ⟨0,rfl,Nat.zero_le _,by omega,⟨Below.refl _ _⟩,⟨fun j hj => absurd hj (Nat.not_lt_zero _)⟩⟩
 case round =>
  obtain ⟨kk,rfl,hkk,hg,HB,HN⟩:=hrel
  by_cases hlt : kk < xs.length
  rotate_left
  ·have hltz : ¬ (kk : Int) < (xs.length : Int):=by omega
   have : kk = xs.length:=by omega
   go_wp2
   go_ret
   refine ⟨?_,HB.out⟩
   rw [idxOf_miss (fun j hj => HN.out j (by omega) hj)];rfl
  have hltz : (kk : Int) < (xs.length : Int):=by omega
  obtain ⟨ad,rfl,e0,e1,e2,e3,e4,e5,e6,e7,e8,e9,e10⟩:=e_h (Kd.b_f HR.out HB.out) (kk : Int) (by omega) (by omega)
  have hx:=List.getElem_mem hlt
  have hrd : a_c xs (kk : Int) = xs[kk]:=by unfold a_c;simp [hlt]
  rw [hrd] at e0 e1 e2 e3 e4 e5 e6 e7 e8 e9 e10
  simp only [Int.toNat_natCast] at e0 e1 e2 e3 e4 e5 e6 e7 e8 e9 e10
  have hcall:=HP.out _ HB.out _ hx
  generalize hy : xs[kk] = y at e0 e1 e2 e3 e4 e5 e6 e7 e8 e9 e10 hcall hx
  have HY:=a_e.mk hy
  clear hy hx hrd
  cases hq : p y with
  | true =>
   rw [hq] at hcall
   go_wp2_with (go_at_fn g;refine hcall.mono ?_;rintro e w' ⟨rfl,hb'⟩)
   go_ret
   refine ⟨?_,HB.out.trans (hb'.mono (a_p HB.out))⟩
   rw [idxOf_hit hlt (by rw [HY.out];exact hq) (fun j hj => HN.out j hj (by omega))];rfl
  | false =>
   rw [hq] at hcall
   go_wp2_with (go_at_fn g;refine hcall.mono ?_;rintro e w' ⟨rfl,hb'⟩)
   go_roundg (xs.length - (kk + 1))
   case measure => omega
   case rel =>
    exact ⟨kk + 1,by go_num,by omega,by omega,⟨HB.out.trans (hb'.mono (a_p HB.out))⟩,⟨fun j hj hj2 => by
     by_cases e : j = kk
     ·subst e;rw [HY.out];exact hq
     exact HN.out j (by omega) hj2⟩⟩
set_option maxHeartbeats 2000000 in
theorem l_1.calls (g : Nat) (x : S65) (a1 : Int) (w : World) (hb : w.heap[g]? = some (.cells #[.int .i64 a1] 3 (0,0))) :
 Calls Try.prog 56 (#[.agg #[.int .i64 x.f0,.int .i64 x.f1,.int .i64 x.f2,.int .i64 x.f3,.int .i64 x.f4,.bool x.f5,.bool x.f6,.int .u32 x.f7,.int .i64 x.f8,.int .i64 x.f9,.int .i64 x.f10]] ++ #[.pointer (some ⟨g,0,none⟩)]) w fun e w' => e = .returned (.bool (x.f0 == a1)) ∧ Below w.heap.size w w':=by
 have hc:=(a_a hb 0).trans rfl
 have hf:=a_b hb 0
 have hlt:=a_N hb
 clear hb
 go_enter Try.func56,Try.ntmps56
 go_wp2
 go_ret
 exact ⟨rfl,(Below.refl _ _).alloc (Nat.le_refl _) _⟩
def b_u.f (l0 : List S65) (a : Int) : Option Int:=if l0.length ≤ 1099511627776 then some (idxOf (fun s => s.f0 == a) l0) else none
theorem b_u.calls (A0 : Option Addr) (c0 : Nat) (l0 : List S65) (g : Nat) (a : Int) (r : Int) (w : World) (hr0 : Kd.C k65 w A0 l0.length l0) (hc0 : l0.length ≤ c0) (hb : w.heap[g]? = some (.cells #[.int .i64 a] 3 (0,0))) (h : b_u.f l0 a = some r) :
 Calls Try.prog 36 #[.slice A0 l0.length c0,.func (.func 56) #[] #[.pointer (some ⟨g,0,none⟩)]] w fun e w' => e = .returned (.int .i64 r) ∧ Below w.heap.size w w':=by
 unfold b_u.f at h
 split at h
 case isFalse => cases h
 case isTrue hl =>
 obtain rfl:=Option.some.inj h
 exact g_E.any 56 _ (i_P Try.func56 (by kernel_rfl) rfl) _ A0 c0 l0 w hr0 hl (fun W hW x _ => l_1.calls g x a W ((hW.block _ (a_N hb)).trans hb))
end Go.Proofs.Ytgglkfilkagblaa.Q
end
