/- Part 11 of 11 of what the row of AuditOne stands on: contracts over the given program's functions, the plain law, the row; no condition beyond those that each theorem states. -/
import Derived.Test.YtgglkfilkagblaaDoorXAuditOne9
import Derived.Test.YtgglkfilkagblaaDoorTie
import Derived.Test.YtgglkfilkagblaaDoorCards
import Derived.SevenTiedAt
import Derived.LaidMore
import Derived.Lib.LaidTab
section
namespace Go.Proofs.YtgglkfilkagblaaDoor.Q
open Go.RowKit Go.Proofs.YtgglkfilkagblaaDoorW.PrintWords Go.Proofs.YtgglkfilkagblaaDoorW.PrintLast Go.Proofs.YtgglkfilkagblaaDoorW.PrintMore
set_option linter.unusedVariables false
set_option linter.unusedSimpArgs false
mutual
def a_m.l0 : Nat → Int → Int → Int → Int → Int → Int → List (S33) → Option (Bool)
 | 0,_,_,_,_,_,_,_ => none
 | k + 1,x1,x5,x6,x26,x27,x253000,x253001 => if x27 < x26 then (if 0 ≤ x1 then (if 0 ≤ x27 then (if x27 < (x253001.length : Int) then ((some (x253001.set (x27 : Int).toNat (⟨(a_a x253001 x27).f0,(a_a x253001 x27).f1,(a_a x253001 x27).f2,(a_a x253001 x27).f3,(a_a x253001 x27).f4,(a_a x253001 x27).f5,(a_a x253001 x27).f6,((shl .u32 1 x1) - 1) % 4294967296,(a_a x253001 x27).f8,(a_a x253001 x27).f9,(a_a x253001 x27).f10⟩ : S33) : List (S33))).bind fun y260 => ((some (y260.set (x27 : Int).toNat (⟨(a_a y260 x27).f0,(a_a y260 x27).f1,0,(a_a y260 x27).f3,(a_a y260 x27).f4,(a_a y260 x27).f5,(a_a y260 x27).f6,(a_a y260 x27).f7,(a_a y260 x27).f8,(a_a y260 x27).f9,(a_a y260 x27).f10⟩ : S33) : List (S33))).bind fun y261 => (if (a_a x253001 x27).f5 = true then (a_m.j1 k x1 x5 x6 x27 x26 x27 (!((a_a x253001 x27).f6)) x253000 y261) else (a_m.j1 k x1 x5 x6 x27 x26 x27 false x253000 y261)))) else (none)) else (none)) else (none)) else ((a_z.f k x253000 x253001).bind fun t266 => (if t266 = true then ((a_H.f k x253000 x253001).bind fun t267 => (if (t267.length : Int) > 0 then (some true) else (if x6 = (mn x5 x1) then ((a_I.f k x253000 x253001).bind fun t270 => (some t270)) else (some false)))) else (some true)))
def a_m.j1 : Nat → Int → Int → Int → Int → Int → Int → Bool → Int → List (S33) → Option (Bool)
 | 0,_,_,_,_,_,_,_,_,_ => none
 | k + 1,x1,x5,x6,x7,x26,x27,x54,x253000,x253001 => if x54 = true then (if 0 ≤ x7 then (if x7 < (x253001.length : Int) then (if ((a_a x253001 x7).f4) ≥ 0 then (a_m.l0 k x1 (wrap64 (x5 + 1)) (wrap64 (x6 + 1)) x26 (wrap64 (x27 + 1)) x253000 x253001) else (a_m.l0 k x1 (wrap64 (x5 + 1)) x6 x26 (wrap64 (x27 + 1)) x253000 x253001)) else (none)) else (none)) else (if 0 ≤ x7 then (if x7 < (x253001.length : Int) then (if ((a_a x253001 x7).f4) ≥ 0 then (a_m.l0 k x1 x5 (wrap64 (x6 + 1)) x26 (wrap64 (x27 + 1)) x253000 x253001) else (a_m.l0 k x1 x5 x6 x26 (wrap64 (x27 + 1)) x253000 x253001)) else (none)) else (none))
end
def a_m.f (k : Nat) (a0_0 : Int) (l0_1 : List (S33)) (a1 : Int) : Option (Bool):=(a_F.f k).bind fun t253 => (if t253 = true then (if (l0_1.length : Int) > 30 then (some true) else ((some (([] : List (S33)) : List (S33))).bind fun y254 => (if y254.length + l0_1.length < 1954687338268 then ((some (y254 ++ l0_1 : List (S33))).bind fun y257 => (a_m.l0 k (((mx a1 0) % 8) + 1) 0 0 (y257.length : Int) 0 a0_0 y257)) else (none)))) else (some false))
theorem a_m.c_9 : ∀ k,(∀ y0 y1 y2 y3 y4 y5 y6,LeO (a_m.l0 k y0 y1 y2 y3 y4 y5 y6) (a_m.l0 (k + 1) y0 y1 y2 y3 y4 y5 y6)) ∧ (∀ y0 y1 y2 y3 y4 y5 y6 y7 y8,LeO (a_m.j1 k y0 y1 y2 y3 y4 y5 y6 y7 y8) (a_m.j1 (k + 1) y0 y1 y2 y3 y4 y5 y6 y7 y8))
 | 0 => ⟨fun _ _ _ _ _ _ _ r h => by simp [a_m.l0] at h,fun _ _ _ _ _ _ _ _ _ r h => by simp [a_m.j1] at h⟩
 | k + 1 => by
  obtain ⟨ih0,ih1⟩:=a_m.c_9 k
  refine ⟨?_,?_⟩
  ·intro y0 y1 y2 y3 y4 y5 y6
   unfold a_m.l0
   repeat' first
   | (with_reducible exact ih0 _ _ _ _ _ _ _)
   | (with_reducible exact ih1 _ _ _ _ _ _ _ _ _)
   | (with_reducible exact a_z.mono _ _ _)
   | (with_reducible exact a_H.mono _ _ _)
   | (with_reducible exact a_I.mono _ _ _)
   | (with_reducible exact a_F.mono _)
   | (with_reducible exact LeO.refl _)
   | (with_reducible exact LeO.none _)
   | (with_reducible refine LeO.ite ?_ ?_)
   | (with_reducible refine LeO.bind ?_ (fun _ => ?_))
   | exact ih0 _ _ _ _ _ _ _
   | exact ih1 _ _ _ _ _ _ _ _ _
   | exact a_z.mono _ _ _
   | exact a_H.mono _ _ _
   | exact a_I.mono _ _ _
   | exact a_F.mono _
   | exact LeO.none _
   | refine LeO.ite ?_ ?_
   | refine LeO.bind ?_ (fun _ => ?_)
  ·intro y0 y1 y2 y3 y4 y5 y6 y7 y8
   unfold a_m.j1
   repeat' first
   | (with_reducible exact ih0 _ _ _ _ _ _ _)
   | (with_reducible exact ih1 _ _ _ _ _ _ _ _ _)
   | (with_reducible exact a_z.mono _ _ _)
   | (with_reducible exact a_H.mono _ _ _)
   | (with_reducible exact a_I.mono _ _ _)
   | (with_reducible exact a_F.mono _)
   | (with_reducible exact LeO.refl _)
   | (with_reducible exact LeO.none _)
   | (with_reducible refine LeO.ite ?_ ?_)
   | (with_reducible refine LeO.bind ?_ (fun _ => ?_))
   | exact ih0 _ _ _ _ _ _ _
   | exact ih1 _ _ _ _ _ _ _ _ _
   | exact a_z.mono _ _ _
   | exact a_H.mono _ _ _
   | exact a_I.mono _ _ _
   | exact a_F.mono _
   | exact LeO.none _
   | refine LeO.ite ?_ ?_
   | refine LeO.bind ?_ (fun _ => ?_)
theorem a_m.mono : ∀ a0 a1 a2 k,LeO (a_m.f k a0 a1 a2) (a_m.f (k + 1) a0 a1 a2):=by
 intro a0 a1 a2 k
 obtain ⟨ih0,ih1⟩:=a_m.c_9 k
 unfold a_m.f
 repeat' first
  | (with_reducible exact ih0 _ _ _ _ _ _ _)
  | (with_reducible exact ih1 _ _ _ _ _ _ _ _ _)
  | (with_reducible exact a_z.mono _ _ _)
  | (with_reducible exact a_H.mono _ _ _)
  | (with_reducible exact a_I.mono _ _ _)
  | (with_reducible exact a_F.mono _)
  | (with_reducible exact LeO.refl _)
  | (with_reducible exact LeO.none _)
  | (with_reducible refine LeO.ite ?_ ?_)
  | (with_reducible refine LeO.bind ?_ (fun _ => ?_))
  | exact ih0 _ _ _ _ _ _ _
  | exact ih1 _ _ _ _ _ _ _ _ _
  | exact a_z.mono _ _ _
  | exact a_H.mono _ _ _
  | exact a_I.mono _ _ _
  | exact a_F.mono _
  | exact LeO.none _
  | refine LeO.ite ?_ ?_
  | refine LeO.bind ?_ (fun _ => ?_)
def a_m.T11 : Bool × List (List Nat × List Nat):=(true,[([],[]),([0],[0]),([],[]),([],[]),([3],[3]),([],[]),([],[]),([6],[6]),([7],[7]),([1,2,0,1,2,6,7,8],[1,2]),([9,0,1,2,6,7,8],[9]),([10,8,0,1,2,6,7,8],[8,10]),([4,5,0,1,2,3,4,5,6,7,8,9,10,11],[4,5]),([12,0,1,2,3,4,5,6,7,8,9,10,11],[12]),([13,11,0,1,2,3,4,5,6,7,8,9,10,11],[13])])
def a_m.B11 : List Nat:=[0,1,0,0,8,0,0,64,192,455,967,1991,4095,8191,16383]
theorem a_m.m_N : rtab .any (opsOf Tryd.f4 11) = a_m.T11:=by kernel_rfl
theorem a_m.j_H : e_H a_m.T11.2 a_m.B11 = true:=by kernel_rfl
set_option maxHeartbeats 8000000 in
set_option maxRecDepth 100000 in
theorem j_R {l : List S33} {i : Int} {v : S33} (h : i.toNat < l.length) : a_a (l.set i.toNat v) i = v:=by simp [a_a,h]
set_option maxHeartbeats 4000000 in
theorem a_m.calls (k : Nat) (a0_0 : Int) (A0_1 : Option Addr) (c0_1 : Nat) (l0_1 : List (S33)) (a1 : Int) (r : Bool) (w : World) (hr0_1 : Kd.C k33 w A0_1 l0_1.length l0_1) (hc0_1 : l0_1.length ≤ c0_1) (ht : d_1 w) (h : a_m.f k a0_0 l0_1 a1 = some r) :
 Calls Tryd.prog 4 #[.agg #[.int .i64 a0_0,.slice A0_1 l0_1.length c0_1],.int .i64 a1] w fun e w' => e = .returned (.bool r) ∧ Below w.heap.size w w':=by
 have hu24:=Tryd.underlying24
 have hu33:=Tryd.underlying33
 have HTAB_:=a_f.mk ht
 clear ht
 have c_c:=a_f.mk hr0_1
 have d_I:=a_f.mk hc0_1
 clear hr0_1 hc0_1
 have HB:=a_f.mk (Below.refl w.heap.size w)
 have H : ((a_F.f k).bind fun t253 => (if t253 = true then (if (l0_1.length : Int) > 30 then (some true) else ((some (([] : List (S33)) : List (S33))).bind fun y254 => (if y254.length + l0_1.length < 1954687338268 then ((some (y254 ++ l0_1 : List (S33))).bind fun y257 => (a_m.l0 k (((mx a1 0) % 8) + 1) 0 0 (y257.length : Int) 0 a0_0 y257)) else (none)))) else (some false))) = some r:=h
 clear h
 replace H:=Option.bind_eq_some_iff.mp H
 obtain ⟨t253,A30,H⟩:=H
 replace H : (if t253 = true then (if (l0_1.length : Int) > 30 then (some true) else ((some (([] : List (S33)) : List (S33))).bind fun y254 => (if y254.length + l0_1.length < 1954687338268 then ((some (y254 ++ l0_1 : List (S33))).bind fun y257 => (a_m.l0 k (((mx a1 0) % 8) + 1) 0 0 (y257.length : Int) 0 a0_0 y257)) else (none)))) else (some false)) = some r:=H
 have A3:=a_f.mk A30
 clear A30
 by_cases c4 : t253 = true
 rotate_left
 ·replace c4:=Bool.eq_false_iff.mpr c4
  subst c4
  have H1 : (some false) = some r:=by rw [if_neg (show ¬ (false = true) by decide)] at H;exact H
  clear H
  have H:=H1
  clear H1
  obtain rfl:=Option.some.inj H
  go_enter Tryd.func4,Tryd.ntmps4
  go_wp2_with (first|((with_reducible refine a_J (N:=2) rfl ?_);(try (refine d_W (by rfl) ?_;dsimp only));refine a_A ?hg (N:=2) ?hd (cs:=#[.int .i64 a0_0,.slice A0_1 l0_1.length c0_1]) (t:=24) ?hr ?_;(case hd => rfl);(case hg => rfl);(case hr => first|(go_simp;done)|(go_simp;rfl));intro c_b hg w89 hbox hb;have a_W:=a_f.mk (hbox);have q_7:=a_f.mk ((by rw [hg];exact (a_o (lup_ HB.out)) : w.heap.size ≤ c_b));have c_P:=a_f.mk ((by rw [hg];exact (a_o (lup_ HB.out)) : w.heap.size ≤ c_b));replace HB:=a_f.mk (a_q (lup_ HB.out) hb);clear hb hbox hg)|((with_reducible refine a_M (f:=5) rfl ?_);refine b_D (some 9) rfl rfl Tryd.func5 (by kernel_rfl) rfl #[] rfl (by (try simp only [List.map_toArray,List.map_cons,List.map_nil]);first|done|rfl|(simp only [List.length_drop,List.length_take];rfl)) ?_;(with_reducible refine (a_F.calls k  false _ A3.out).mono ?_);rintro e w90 ⟨rfl,hb⟩;refine ⟨_,rfl,?_⟩;replace a_W:=a_f.mk (a_l (bup_ a_W.out) hb);replace HB:=a_f.mk (a_q (by repeat (first|(with_reducible first|exact HB.out|apply a_j|apply a_h|apply a_k|refine a_i ?_ c_P.out)|exact HB.out)) hb);(try clear hb);(try clear hb2);(try clear hk);(try clear hi)))
  go_ret
  exact ⟨by first|rfl|(simp [a_u,a_v] <;> rfl)|(simp [*, a_u,a_v] <;> rfl),by repeat (first|(with_reducible first|exact HB.out|apply a_j|apply a_h|apply a_k|refine a_i ?_ c_P.out)|exact HB.out)⟩
 subst c4
 have H1 : (if (l0_1.length : Int) > 30 then (some true) else ((some (([] : List (S33)) : List (S33))).bind fun y254 => (if y254.length + l0_1.length < 1954687338268 then ((some (y254 ++ l0_1 : List (S33))).bind fun y257 => (a_m.l0 k (((mx a1 0) % 8) + 1) 0 0 (y257.length : Int) 0 a0_0 y257)) else (none)))) = some r:=by rw [if_pos rfl] at H;exact H
 clear H
 have H:=H1
 clear H1
 by_cases c5 : (l0_1.length : Int) > 30
 ·rw [if_pos c5] at H
  have c5b0 : decide (30 < (l0_1.length : Int)) = true:=decide_eq_true c5
  have c5b1 : decide (30 < l0_1.length) = true:=decide_eq_true (by omega)
  clear c5
  obtain rfl:=Option.some.inj H
  go_enter Tryd.func4,Tryd.ntmps4
  go_wp2_with (first|((with_reducible refine a_J (N:=2) rfl ?_);(try (refine d_W (by rfl) ?_;dsimp only));refine a_A ?hg (N:=2) ?hd (cs:=#[.int .i64 a0_0,.slice A0_1 l0_1.length c0_1]) (t:=24) ?hr ?_;(case hd => rfl);(case hg => rfl);(case hr => first|(go_simp;done)|(go_simp;rfl));intro c_b hg w6 hbox hb;have a_W:=a_f.mk (hbox);have q_7:=a_f.mk ((by rw [hg];exact (a_o (lup_ HB.out)) : w.heap.size ≤ c_b));have c_P:=a_f.mk ((by rw [hg];exact (a_o (lup_ HB.out)) : w.heap.size ≤ c_b));replace HB:=a_f.mk (a_q (lup_ HB.out) hb);clear hb hbox hg)|((with_reducible refine a_M (f:=5) rfl ?_);refine b_D (some 9) rfl rfl Tryd.func5 (by kernel_rfl) rfl #[] rfl (by (try simp only [List.map_toArray,List.map_cons,List.map_nil]);first|done|rfl|(simp only [List.length_drop,List.length_take];rfl)) ?_;(with_reducible refine (a_F.calls k  true _ A3.out).mono ?_);rintro e w7 ⟨rfl,hb⟩;refine ⟨_,rfl,?_⟩;replace a_W:=a_f.mk (a_l (bup_ a_W.out) hb);replace HB:=a_f.mk (a_q (by repeat (first|(with_reducible first|exact HB.out|apply a_j|apply a_h|apply a_k|refine a_i ?_ c_P.out)|exact HB.out)) hb);(try clear hb);(try clear hb2);(try clear hk);(try clear hi);have g_P : w7.cell? ⟨c_b,0,none⟩ = some (.int .i64 a0_0):=(a_b a_W.out 0).trans rfl;have g_Q : w7.cell? ⟨c_b,1,none⟩ = some (.slice A0_1 l0_1.length c0_1):=(a_b a_W.out 1).trans rfl;have g_R:=a_c a_W.out 0;have g_S:=a_c a_W.out 1))
  go_ret
  exact ⟨by first|rfl|(simp [a_u,a_v] <;> rfl)|(simp [*, a_u,a_v] <;> rfl),by repeat (first|(with_reducible first|exact HB.out|apply a_j|apply a_h|apply a_k|refine a_i ?_ c_P.out)|exact HB.out)⟩
 rw [if_neg c5] at H
 have c5b0 : decide (30 < (l0_1.length : Int)) = false:=decide_eq_false c5
 have c5b1 : decide (30 < l0_1.length) = false:=decide_eq_false (by omega)
 clear c5
 obtain ⟨y254,hy254⟩ : ∃ y_ : List (S33),y_ = (([] : List (S33))):=⟨_,rfl⟩
 replace H : (if y254.length + l0_1.length < 1954687338268 then ((some (y254 ++ l0_1 : List (S33))).bind fun y257 => (a_m.l0 k (((mx a1 0) % 8) + 1) 0 0 (y257.length : Int) 0 a0_0 y257)) else (none)) = some r:=by first|(rw [hy254];with_reducible exact H)|(have H2_:=(Option.bind_some _ _).symm.trans H;rw [hy254];with_reducible exact H2_)|(have H2_:=(Option.bind_some _ _).symm.trans H;with_reducible exact H2_)|with_reducible exact H|(rw [hy254];exact H)|exact H
 have Ny254:=a_f.mk hy254
 clear hy254
 by_cases c9 : y254.length + l0_1.length < 1954687338268
 rotate_left
 ·rw [if_neg c9] at H
  exact absurd H (by simp)
 rw [if_pos c9] at H
 have LMc9:=a_f.mk c9
 clear c9
 obtain ⟨y257,hy257⟩ : ∃ y_ : List (S33),y_ = (y254 ++ l0_1):=⟨_,rfl⟩
 replace H : (a_m.l0 k (((mx a1 0) % 8) + 1) 0 0 (y257.length : Int) 0 a0_0 y257) = some r:=by first|(rw [hy257];with_reducible exact H)|(have H2_:=(Option.bind_some _ _).symm.trans H;rw [hy257];with_reducible exact H2_)|(have H2_:=(Option.bind_some _ _).symm.trans H;with_reducible exact H2_)|with_reducible exact H|(rw [hy257];exact H)|exact H
 have Ny257:=a_f.mk hy257
 clear hy257
 obtain ⟨ji10,hji10⟩ : ∃ j_ : Int,(mx a1 0) = j_:=⟨_,rfl⟩
 replace H : (a_m.l0 k (((ji10) % 8) + 1) 0 0 (y257.length : Int) 0 a0_0 y257) = some r:=by first|(rw [hji10] at H;exact H)|(simp only [hji10] at H ⊢; exact H)
 (try rw [hji10] at A3)
 (try (have hji10l : 0 ≤ ji10:=by (rw [← hji10];unfold mx;(repeat' split) <;> omega)))
 (try (have hji10m : 0 ≤ ji10:=by omega))
 have hji10_ : (if a1 < 0 then 0 else a1) = ji10:=hji10
 have H':=a_f.mk H
 clear H
 go_enter Tryd.func4,Tryd.ntmps4
 go_wp2_with (first|((with_reducible refine a_J (N:=2) rfl ?_);(try (refine d_W (by rfl) ?_;dsimp only));refine a_A ?hg (N:=2) ?hd (cs:=#[.int .i64 a0_0,.slice A0_1 l0_1.length c0_1]) (t:=24) ?hr ?_;(case hd => rfl);(case hg => rfl);(case hr => first|(go_simp;done)|(go_simp;rfl));intro c_b hg w11 hbox hb;have a_W:=a_f.mk (hbox);have q_7:=a_f.mk ((by rw [hg];exact (a_o (lup_ HB.out)) : w.heap.size ≤ c_b));have c_P:=a_f.mk ((by rw [hg];exact (a_o (lup_ HB.out)) : w.heap.size ≤ c_b));replace HB:=a_f.mk (a_q (lup_ HB.out) hb);clear hb hbox hg)|((with_reducible refine a_M (f:=5) rfl ?_);refine b_D (some 9) rfl rfl Tryd.func5 (by kernel_rfl) rfl #[] rfl (by (try simp only [List.map_toArray,List.map_cons,List.map_nil]);first|done|rfl|(simp only [List.length_drop,List.length_take];rfl)) ?_;(with_reducible refine (a_F.calls k  true _ A3.out).mono ?_);rintro e w12 ⟨rfl,hb⟩;refine ⟨_,rfl,?_⟩;replace a_W:=a_f.mk (a_l (bup_ a_W.out) hb);replace HB:=a_f.mk (a_q (by repeat (first|(with_reducible first|exact HB.out|apply a_j|apply a_h|apply a_k|refine a_i ?_ c_P.out)|exact HB.out)) hb);(try clear hb);(try clear hb2);(try clear hk);(try clear hi);have e_3 : w12.cell? ⟨c_b,0,none⟩ = some (.int .i64 a0_0):=(a_b a_W.out 0).trans rfl;have e_4 : w12.cell? ⟨c_b,1,none⟩ = some (.slice A0_1 l0_1.length c0_1):=(a_b a_W.out 1).trans rfl;have e_5:=a_c a_W.out 0;have e_6:=a_c a_W.out 1)|((with_reducible refine a_J (N:=15) rfl ?_);(try (refine d_W (by rfl) ?_;dsimp only));refine Kd.r_j k33 _ 33 ?hg (N:=15) ?hd (xs:=([] : List (S33))) (inner:=[]) (ok:=fun _ => True) (okp:=fun _ => True) ?hr ?hp (fun _ hk => hk) trivial (Below.refl _ _) (Nat.le_refl _) (by simp) ?_;(case hd => rfl);(case hg => rfl);(case hr => first|(go_simp;done)|(go_simp;rfl));(case hp => exact (Reps.none _ _));intro v255 w14 ho15 hb hg_ hnew_;clear hg_ hnew_;(first|rw [← Ny254.out] at ho15|(simp only [Int.reduceToNat] at ho15;rw [← Ny254.out] at ho15));have n_w:=a_f.mk (Kd.e_q ho15 (a_o (by repeat (first|(with_reducible first|exact HB.out|apply a_j|apply a_h|apply a_k|refine a_i ?_ c_P.out)|exact HB.out))));replace a_W:=a_f.mk (a_l (bup_ a_W.out) hb);replace HB:=a_f.mk (a_q (by repeat (first|(with_reducible first|exact HB.out|apply a_j|apply a_h|apply a_k|refine a_i ?_ c_P.out)|exact HB.out)) hb);clear hb ho15;have g_n : w14.cell? ⟨c_b,0,none⟩ = some (.int .i64 a0_0):=(a_b a_W.out 0).trans rfl;have g_o : w14.cell? ⟨c_b,1,none⟩ = some (.slice A0_1 l0_1.length c0_1):=(a_b a_W.out 1).trans rfl;have g_p:=a_c a_W.out 0;have g_q:=a_c a_W.out 1)|((with_reducible refine f_Y (b:=.append) (xs:=#[.tmp 15,.tmp 17]) rfl ?_);(try (refine d_W (by rfl) ?_;dsimp only));at_builtin;refine Kd.f_s k33 (w0:=w) w.heap.size rfl (.tmp 15) (.tmp 17) 22 33 (.agg #[(.int .i64 0),(.int .i64 0),(.int .i64 0),(.int .i64 0),(.int .i64 0),(.bool false),(.bool false),(.int .u32 0),(.int .i64 0),(.int .i64 0),(.int .i64 0)]) 72 rfl Tryd.underlying22 r_I rfl (by decide) (by omega) v255 y254 l0_1 _ _ _ (fun _ => True) (fun _ => False) rfl rfl ?aO ?aR (fun _ _ h => h) (fun _ h => h.elim) ?aF ?aB ?aS ?aL ?_;(case aR => repeat (first|exact (Kd.b_i c_c.out HB.out)|(with_reducible refine Kd.b_b ?_ _)|(with_reducible refine Kd.b_c ?_ _)|(with_reducible refine Kd.b_z ?_)));(case aB => exact (by repeat (first|(with_reducible first|exact HB.out|apply a_j|apply a_h|apply a_k|refine a_i ?_ c_P.out)|exact HB.out)));(case aF => exact (fun _ _ => trivial));(case aO => exact (rup_ n_w.out));(case aS => exact (a_o (by repeat (first|(with_reducible first|exact HB.out|apply a_j|apply a_h|apply a_k|refine a_i ?_ c_P.out)|exact HB.out))));(case aL => have:=LMc9.out;omega);intro v258 w17 ho hb hg hat;rw [← Ny257.out] at ho;have r_b:=a_f.mk (ho);replace a_W:=a_f.mk (e_l (g:=c_b) (o:=.cells #[.int .i64 a0_0,.slice A0_1 l0_1.length c0_1] 24 (0,0)) (bup_ a_W.out) hg (Kd.R_ne n_w.out a_W.out (by decide)));replace HB:=a_f.mk (hb);clear n_w ho hb hg hat;obtain ⟨Ao18,co18,eo18⟩:=Kd.d_U r_b.out;subst eo18;have f_O : w17.cell? ⟨c_b,0,none⟩ = some (.int .i64 a0_0):=(a_b a_W.out 0).trans rfl;have f_P : w17.cell? ⟨c_b,1,none⟩ = some (.slice A0_1 l0_1.length c0_1):=(a_b a_W.out 1).trans rfl;have f_Q:=a_c a_W.out 0;have f_R:=a_c a_W.out 1))
 go_loopg [5,6,27] k (fun kq v5 v6 v27 w' => ∃ (x5_1 : Int) (x6_1 : Int) (x27_1 : Int) (x253001_1 : List (S33)) (u253001 : Value),v5 = .int .i64 x5_1 ∧ v6 = .int .i64 x6_1 ∧ v27 = .int .i64 x27_1 ∧ a_f (a_m.l0 kq (((ji10) % 8) + 1) x5_1 x6_1 (y257.length : Int) x27_1 a0_0 x253001_1 = some r) ∧ a_f (kq ≤ k) ∧ a_f (Kd.R k33 33 w' w.heap.size (fun _ => True) u253001 x253001_1) ∧ a_f (w'.heap[c_b]? = some (.cells #[.int .i64 a0_0,u253001] 24 (0,0))) ∧ a_f (Below w.heap.size w w'))
 case atStart => exact ⟨(0),(0),(0),(y257),(.slice Ao18 y257.length co18),(by first|rfl|(simp;done)|(simp [*];done)),(by first|rfl|(simp;done)|(simp [*];done)),(by first|rfl|(simp;done)|(simp [*];done)),H',⟨Nat.le_refl _⟩,⟨by (with_reducible repeat (first|apply Kd.e_h|apply Kd.e_i|apply Kd.e_J));exact Kd.d_Q (Kd.d_T (p:=⟨c_b,1,none⟩) (Kd.h_0 r_b.out a_W.out (by decide)) (fun _ hk => hk.2) (.slice Ao18 y257.length co18)) (fun _ hk => trivial)⟩,⟨by (with_reducible repeat (first|refine a_e ?_ _|refine a_g ?_|refine a_d ?_ _));refine a_n (cs:=#[.int .i64 a0_0,.slice A0_1 l0_1.length c0_1]) ?_ 1 _ rfl;(with_reducible repeat (first|refine a_e ?_ _|refine a_g ?_|refine a_d ?_ _));exact a_W.out⟩,⟨by repeat (first|(with_reducible first|exact HB.out|apply a_j|apply a_h|apply a_k|refine a_i ?_ c_P.out)|exact HB.out)⟩⟩
 case round =>
  clear H'
  try clear p2
  try clear c4
  try clear c5
  try clear c5b0
  try clear c5b1
  try clear c9
  try clear e_3
  try clear e_4
  try clear g_n
  try clear g_o
  try clear f_O
  try clear f_P
  try clear g_P
  try clear g_Q
  try clear e_5
  try clear e_6
  try clear g_p
  try clear g_q
  try clear f_Q
  try clear f_R
  try clear g_R
  try clear g_S
  obtain ⟨x5_1,x6_1,x27_1,x253001_1,u253001,rfl,rfl,rfl,HA,HK1,a_C,a_W,HB⟩:=hrel
  cases gk with
  | zero => exact absurd HA.out (by simp [a_m.l0])
  | succ k1 =>
   have H:=HA.out
   clear HA
   simp only [a_m.l0] at H
   by_cases c20 : x27_1 < (y257.length : Int)
   rotate_left
   ·rw [if_neg c20] at H
    have c20b0 : decide (x27_1 < (y257.length : Int)) = false:=decide_eq_false c20
    clear c20
    replace H:=Option.bind_eq_some_iff.mp H
    obtain ⟨t266,A590,H⟩:=H
    replace H : (if t266 = true then ((a_H.f k1 a0_0 x253001_1).bind fun t267 => (if (t267.length : Int) > 0 then (some true) else (if x6_1 = (mn x5_1 (((ji10) % 8) + 1)) then ((a_I.f k1 a0_0 x253001_1).bind fun t270 => (some t270)) else (some false)))) else (some true)) = some r:=H
    have A59:=a_f.mk A590
    clear A590
    by_cases c60 : t266 = true
    rotate_left
    ·replace c60:=Bool.eq_false_iff.mpr c60
     subst c60
     have H1 : (some true) = some r:=by rw [if_neg (show ¬ (false = true) by decide)] at H;exact H
     clear H
     have H:=H1
     clear H1
     obtain rfl:=Option.some.inj H
     have v_l : wr.cell? ⟨c_b,0,none⟩ = some (.int .i64 a0_0):=(a_b a_W.out 0).trans rfl
     have v_m : wr.cell? ⟨c_b,1,none⟩ = some (u253001):=(a_b a_W.out 1).trans rfl
     have x_Q:=a_c a_W.out 0
     have x_R:=a_c a_W.out 1
     obtain ⟨Ao87,co87,eo87⟩:=Kd.d_U a_C.out
     subst eo87
     go_wp2_with (first|((with_reducible refine a_M (f:=6) rfl ?_);refine b_D (some 68) rfl rfl Tryd.func6 (by kernel_rfl) rfl #[.agg #[.int .i64 a0_0,.slice Ao87 x253001_1.length co87]] rfl (by (try simp only [List.map_toArray,List.map_cons,List.map_nil]);first|done|rfl|(simp only [List.length_drop,List.length_take];rfl)) ?_;(with_reducible refine (a_z.calls k1 a0_0 _ _ x253001_1 false _ ?side1 ?side2 A59.out).mono ?_);(case side1 => repeat (first|exact (Kd.b_o a_C.out).2.2|(with_reducible refine Kd.b_b ?_ _)|(with_reducible refine Kd.b_c ?_ _)|(with_reducible refine Kd.b_z ?_)));(case side2 => exact (Kd.b_o a_C.out).2.1);rintro e w88 ⟨rfl,hb⟩;refine ⟨_,rfl,?_⟩;replace a_C:=a_f.mk (Kd.c_i (rup_ a_C.out) hb);replace a_W:=a_f.mk (a_l (bup_ a_W.out) hb);replace HB:=a_f.mk (a_q (by repeat (first|(with_reducible first|exact HB.out|apply a_j|apply a_h|apply a_k|refine a_i ?_ c_P.out)|exact HB.out)) hb);(try clear hb);(try clear hb2);(try clear hk);(try clear hi)))
     go_ret
     exact ⟨by first|rfl|(simp [a_u,a_v] <;> rfl)|(simp only [← hji10];first|rfl|(simp [a_u,a_v] <;> rfl))|(simp [*, a_u,a_v] <;> rfl),by repeat (first|(with_reducible first|exact HB.out|apply a_j|apply a_h|apply a_k|refine a_i ?_ c_P.out)|exact HB.out)⟩
    subst c60
    have H1 : ((a_H.f k1 a0_0 x253001_1).bind fun t267 => (if (t267.length : Int) > 0 then (some true) else (if x6_1 = (mn x5_1 (((ji10) % 8) + 1)) then ((a_I.f k1 a0_0 x253001_1).bind fun t270 => (some t270)) else (some false)))) = some r:=by rw [if_pos rfl] at H;exact H
    clear H
    have H:=H1
    clear H1
    replace H:=Option.bind_eq_some_iff.mp H
    obtain ⟨t267,A610,H⟩:=H
    replace H : (if (t267.length : Int) > 0 then (some true) else (if x6_1 = (mn x5_1 (((ji10) % 8) + 1)) then ((a_I.f k1 a0_0 x253001_1).bind fun t270 => (some t270)) else (some false))) = some r:=H
    have A61:=a_f.mk A610
    clear A610
    by_cases c62 : (t267.length : Int) > 0
    ·rw [if_pos c62] at H
     have c62b0 : decide (0 < (t267.length : Int)) = true:=decide_eq_true c62
     have c62b1 : decide (0 < t267.length) = true:=decide_eq_true (by omega)
     clear c62
     obtain rfl:=Option.some.inj H
     have p_f : wr.cell? ⟨c_b,0,none⟩ = some (.int .i64 a0_0):=(a_b a_W.out 0).trans rfl
     have p_g : wr.cell? ⟨c_b,1,none⟩ = some (u253001):=(a_b a_W.out 1).trans rfl
     have q_Q:=a_c a_W.out 0
     have q_R:=a_c a_W.out 1
     obtain ⟨Ao64,co64,eo64⟩:=Kd.d_U a_C.out
     subst eo64
     go_wp2_with (first|((with_reducible refine a_M (f:=6) rfl ?_);refine b_D (some 68) rfl rfl Tryd.func6 (by kernel_rfl) rfl #[.agg #[.int .i64 a0_0,.slice Ao64 x253001_1.length co64]] rfl (by (try simp only [List.map_toArray,List.map_cons,List.map_nil]);first|done|rfl|(simp only [List.length_drop,List.length_take];rfl)) ?_;(with_reducible refine (a_z.calls k1 a0_0 _ _ x253001_1 true _ ?side1 ?side2 A59.out).mono ?_);(case side1 => repeat (first|exact (Kd.b_o a_C.out).2.2|(with_reducible refine Kd.b_b ?_ _)|(with_reducible refine Kd.b_c ?_ _)|(with_reducible refine Kd.b_z ?_)));(case side2 => exact (Kd.b_o a_C.out).2.1);rintro e w65 ⟨rfl,hb⟩;refine ⟨_,rfl,?_⟩;replace a_C:=a_f.mk (Kd.c_i (rup_ a_C.out) hb);replace a_W:=a_f.mk (a_l (bup_ a_W.out) hb);replace HB:=a_f.mk (a_q (by repeat (first|(with_reducible first|exact HB.out|apply a_j|apply a_h|apply a_k|refine a_i ?_ c_P.out)|exact HB.out)) hb);(try clear hb);(try clear hb2);(try clear hk);(try clear hi);have u_1 : w65.cell? ⟨c_b,0,none⟩ = some (.int .i64 a0_0):=(a_b a_W.out 0).trans rfl;have u_2 : w65.cell? ⟨c_b,1,none⟩ = some (.slice Ao64 x253001_1.length co64):=(a_b a_W.out 1).trans rfl;have x_w:=a_c a_W.out 0;have x_x:=a_c a_W.out 1)|(go_at_call 8;(with_reducible refine (a_H.calls k1 a0_0 _ _ x253001_1 t267 _ ?side1 ?side2 ?side3 A61.out).mono ?_);(case side1 => repeat (first|exact (Kd.b_o a_C.out).2.2|(with_reducible refine Kd.b_b ?_ _)|(with_reducible refine Kd.b_c ?_ _)|(with_reducible refine Kd.b_z ?_)));(case side2 => exact (Kd.b_o a_C.out).2.1);(case side3 => exact d_1.below HTAB_.out (by repeat (first|(with_reducible first|exact HB.out|apply a_j|apply a_h|apply a_k|refine a_i ?_ c_P.out)|exact HB.out)));rintro e w67 ⟨v268,rfl,ho0,hb⟩;have h_V:=a_f.mk (Kd.e_q ho0 (a_o (by repeat (first|(with_reducible first|exact HB.out|apply a_j|apply a_h|apply a_k|refine a_i ?_ c_P.out)|exact HB.out))));replace a_C:=a_f.mk (Kd.c_i (rup_ a_C.out) hb);replace a_W:=a_f.mk (a_l (bup_ a_W.out) hb);replace HB:=a_f.mk (a_q (by repeat (first|(with_reducible first|exact HB.out|apply a_j|apply a_h|apply a_k|refine a_i ?_ c_P.out)|exact HB.out)) hb);(try clear hb);(try clear hb2);(try clear hk);(try clear hi);(try clear ho0);obtain ⟨Ao68,co68,eo68⟩:=Kd.d_U h_V.out;subst eo68))
     go_ret
     exact ⟨by first|rfl|(simp [a_u,a_v] <;> rfl)|(simp only [← hji10];first|rfl|(simp [a_u,a_v] <;> rfl))|(simp [*, a_u,a_v] <;> rfl),by repeat (first|(with_reducible first|exact HB.out|apply a_j|apply a_h|apply a_k|refine a_i ?_ c_P.out)|exact HB.out)⟩
    rw [if_neg c62] at H
    have c62b0 : decide (0 < (t267.length : Int)) = false:=decide_eq_false c62
    have c62b1 : decide (0 < t267.length) = false:=decide_eq_false (by omega)
    clear c62
    obtain ⟨ji69,hji69⟩ : ∃ j_ : Int,(mn x5_1 (((ji10) % 8) + 1)) = j_:=⟨_,rfl⟩
    replace H : (if x6_1 = (ji69) then ((a_I.f k1 a0_0 x253001_1).bind fun t270 => (some t270)) else (some false)) = some r:=by first|(rw [hji69] at H;exact H)|(simp only [hji69] at H ⊢; exact H)
    (try rw [hji69] at A59)
    (try rw [hji69] at A61)
    have hji69_ : (if (((ji10) % 8) + 1) < x5_1 then (((ji10) % 8) + 1) else x5_1) = ji69:=hji69
    by_cases c70 : x6_1 = (ji69)
    rotate_left
    ·rw [if_neg c70] at H
     have c70b0 : (x6_1 == (ji69)) = false:=beq_eq_false_iff_ne.mpr c70
     have c70b1 : (x6_1 != (ji69)) = true:=bne_iff_ne.mpr c70
     obtain rfl:=Option.some.inj H
     have v_f : wr.cell? ⟨c_b,0,none⟩ = some (.int .i64 a0_0):=(a_b a_W.out 0).trans rfl
     have v_g : wr.cell? ⟨c_b,1,none⟩ = some (u253001):=(a_b a_W.out 1).trans rfl
     have x_K:=a_c a_W.out 0
     have x_L:=a_c a_W.out 1
     obtain ⟨Ao81,co81,eo81⟩:=Kd.d_U a_C.out
     subst eo81
     go_wp2_with (first|((with_reducible refine a_M (f:=6) rfl ?_);refine b_D (some 68) rfl rfl Tryd.func6 (by kernel_rfl) rfl #[.agg #[.int .i64 a0_0,.slice Ao81 x253001_1.length co81]] rfl (by (try simp only [List.map_toArray,List.map_cons,List.map_nil]);first|done|rfl|(simp only [List.length_drop,List.length_take];rfl)) ?_;(with_reducible refine (a_z.calls k1 a0_0 _ _ x253001_1 true _ ?side1 ?side2 A59.out).mono ?_);(case side1 => repeat (first|exact (Kd.b_o a_C.out).2.2|(with_reducible refine Kd.b_b ?_ _)|(with_reducible refine Kd.b_c ?_ _)|(with_reducible refine Kd.b_z ?_)));(case side2 => exact (Kd.b_o a_C.out).2.1);rintro e w82 ⟨rfl,hb⟩;refine ⟨_,rfl,?_⟩;replace a_C:=a_f.mk (Kd.c_i (rup_ a_C.out) hb);replace a_W:=a_f.mk (a_l (bup_ a_W.out) hb);replace HB:=a_f.mk (a_q (by repeat (first|(with_reducible first|exact HB.out|apply a_j|apply a_h|apply a_k|refine a_i ?_ c_P.out)|exact HB.out)) hb);(try clear hb);(try clear hb2);(try clear hk);(try clear hi);have v_h : w82.cell? ⟨c_b,0,none⟩ = some (.int .i64 a0_0):=(a_b a_W.out 0).trans rfl;have v_i : w82.cell? ⟨c_b,1,none⟩ = some (.slice Ao81 x253001_1.length co81):=(a_b a_W.out 1).trans rfl;have x_M:=a_c a_W.out 0;have x_N:=a_c a_W.out 1)|(go_at_call 8;(with_reducible refine (a_H.calls k1 a0_0 _ _ x253001_1 t267 _ ?side1 ?side2 ?side3 A61.out).mono ?_);(case side1 => repeat (first|exact (Kd.b_o a_C.out).2.2|(with_reducible refine Kd.b_b ?_ _)|(with_reducible refine Kd.b_c ?_ _)|(with_reducible refine Kd.b_z ?_)));(case side2 => exact (Kd.b_o a_C.out).2.1);(case side3 => exact d_1.below HTAB_.out (by repeat (first|(with_reducible first|exact HB.out|apply a_j|apply a_h|apply a_k|refine a_i ?_ c_P.out)|exact HB.out)));rintro e w84 ⟨v268,rfl,ho0,hb⟩;have h_V:=a_f.mk (Kd.e_q ho0 (a_o (by repeat (first|(with_reducible first|exact HB.out|apply a_j|apply a_h|apply a_k|refine a_i ?_ c_P.out)|exact HB.out))));replace a_C:=a_f.mk (Kd.c_i (rup_ a_C.out) hb);replace a_W:=a_f.mk (a_l (bup_ a_W.out) hb);replace HB:=a_f.mk (a_q (by repeat (first|(with_reducible first|exact HB.out|apply a_j|apply a_h|apply a_k|refine a_i ?_ c_P.out)|exact HB.out)) hb);(try clear hb);(try clear hb2);(try clear hk);(try clear hi);(try clear ho0);obtain ⟨Ao85,co85,eo85⟩:=Kd.d_U h_V.out;subst eo85))
     go_ret
     exact ⟨by first|rfl|(simp [a_u,a_v] <;> rfl)|(simp only [← hji10, ← hji69];first|rfl|(simp [a_u,a_v] <;> rfl))|(simp [*, a_u,a_v] <;> rfl),by repeat (first|(with_reducible first|exact HB.out|apply a_j|apply a_h|apply a_k|refine a_i ?_ c_P.out)|exact HB.out)⟩
    rw [if_pos c70] at H
    have c70b0 : (x6_1 == (ji69)) = true:=beq_iff_eq.mpr c70
    have c70b1 : (x6_1 != (ji69)) = false:=bne_eq_false_iff_eq.mpr c70
    clear c70
    replace H:=Option.bind_eq_some_iff.mp H
    obtain ⟨t270,A710,H⟩:=H
    replace H : (some t270) = some r:=H
    have A71:=a_f.mk A710
    clear A710
    obtain rfl:=Option.some.inj H
    have u_3 : wr.cell? ⟨c_b,0,none⟩ = some (.int .i64 a0_0):=(a_b a_W.out 0).trans rfl
    have u_4 : wr.cell? ⟨c_b,1,none⟩ = some (u253001):=(a_b a_W.out 1).trans rfl
    have x_y:=a_c a_W.out 0
    have x_z:=a_c a_W.out 1
    obtain ⟨Ao73,co73,eo73⟩:=Kd.d_U a_C.out
    subst eo73
    go_wp2_with (first|((with_reducible refine a_M (f:=6) rfl ?_);refine b_D (some 68) rfl rfl Tryd.func6 (by kernel_rfl) rfl #[.agg #[.int .i64 a0_0,.slice Ao73 x253001_1.length co73]] rfl (by (try simp only [List.map_toArray,List.map_cons,List.map_nil]);first|done|rfl|(simp only [List.length_drop,List.length_take];rfl)) ?_;(with_reducible refine (a_z.calls k1 a0_0 _ _ x253001_1 true _ ?side1 ?side2 A59.out).mono ?_);(case side1 => repeat (first|exact (Kd.b_o a_C.out).2.2|(with_reducible refine Kd.b_b ?_ _)|(with_reducible refine Kd.b_c ?_ _)|(with_reducible refine Kd.b_z ?_)));(case side2 => exact (Kd.b_o a_C.out).2.1);rintro e w74 ⟨rfl,hb⟩;refine ⟨_,rfl,?_⟩;replace a_C:=a_f.mk (Kd.c_i (rup_ a_C.out) hb);replace a_W:=a_f.mk (a_l (bup_ a_W.out) hb);replace HB:=a_f.mk (a_q (by repeat (first|(with_reducible first|exact HB.out|apply a_j|apply a_h|apply a_k|refine a_i ?_ c_P.out)|exact HB.out)) hb);(try clear hb);(try clear hb2);(try clear hk);(try clear hi);have u_7 : w74.cell? ⟨c_b,0,none⟩ = some (.int .i64 a0_0):=(a_b a_W.out 0).trans rfl;have u_8 : w74.cell? ⟨c_b,1,none⟩ = some (.slice Ao73 x253001_1.length co73):=(a_b a_W.out 1).trans rfl;have x_C:=a_c a_W.out 0;have x_D:=a_c a_W.out 1)|(go_at_call 8;(with_reducible refine (a_H.calls k1 a0_0 _ _ x253001_1 t267 _ ?side1 ?side2 ?side3 A61.out).mono ?_);(case side1 => repeat (first|exact (Kd.b_o a_C.out).2.2|(with_reducible refine Kd.b_b ?_ _)|(with_reducible refine Kd.b_c ?_ _)|(with_reducible refine Kd.b_z ?_)));(case side2 => exact (Kd.b_o a_C.out).2.1);(case side3 => exact d_1.below HTAB_.out (by repeat (first|(with_reducible first|exact HB.out|apply a_j|apply a_h|apply a_k|refine a_i ?_ c_P.out)|exact HB.out)));rintro e w76 ⟨v268,rfl,ho0,hb⟩;have h_V:=a_f.mk (Kd.e_q ho0 (a_o (by repeat (first|(with_reducible first|exact HB.out|apply a_j|apply a_h|apply a_k|refine a_i ?_ c_P.out)|exact HB.out))));replace a_C:=a_f.mk (Kd.c_i (rup_ a_C.out) hb);replace a_W:=a_f.mk (a_l (bup_ a_W.out) hb);replace HB:=a_f.mk (a_q (by repeat (first|(with_reducible first|exact HB.out|apply a_j|apply a_h|apply a_k|refine a_i ?_ c_P.out)|exact HB.out)) hb);(try clear hb);(try clear hb2);(try clear hk);(try clear hi);(try clear ho0);obtain ⟨Ao77,co77,eo77⟩:=Kd.d_U h_V.out;subst eo77;have v_b : w76.cell? ⟨c_b,0,none⟩ = some (.int .i64 a0_0):=(a_b a_W.out 0).trans rfl;have v_c : w76.cell? ⟨c_b,1,none⟩ = some (.slice Ao73 x253001_1.length co73):=(a_b a_W.out 1).trans rfl;have x_G:=a_c a_W.out 0;have x_H:=a_c a_W.out 1)|(go_at_call 7;(with_reducible refine (a_I.calls k1 a0_0 _ _ x253001_1 t270 _ ?side1 ?side2 A71.out).mono ?_);(case side1 => repeat (first|exact (Kd.b_o a_C.out).2.2|(with_reducible refine Kd.b_b ?_ _)|(with_reducible refine Kd.b_c ?_ _)|(with_reducible refine Kd.b_z ?_)));(case side2 => exact (Kd.b_o a_C.out).2.1);rintro e w79 ⟨rfl,hb⟩;replace a_C:=a_f.mk (Kd.c_i (rup_ a_C.out) hb);replace h_V:=a_f.mk (Kd.c_i (rup_ h_V.out) hb);replace a_W:=a_f.mk (a_l (bup_ a_W.out) hb);replace HB:=a_f.mk (a_q (by repeat (first|(with_reducible first|exact HB.out|apply a_j|apply a_h|apply a_k|refine a_i ?_ c_P.out)|exact HB.out)) hb);(try clear hb);(try clear hb2);(try clear hk);(try clear hi)))
    go_ret
    exact ⟨by first|rfl|(simp [a_u,a_v] <;> rfl)|(simp only [← hji10, ← hji69];first|rfl|(simp [a_u,a_v] <;> rfl))|(simp [*, a_u,a_v] <;> rfl),by repeat (first|(with_reducible first|exact HB.out|apply a_j|apply a_h|apply a_k|refine a_i ?_ c_P.out)|exact HB.out)⟩
   rw [if_pos c20] at H
   have c20b0 : decide (x27_1 < (y257.length : Int)) = true:=decide_eq_true c20
   clear c20
   obtain ⟨ji21,hji21⟩ : ∃ j_ : Int,(((ji10) % 8) + 1) = j_:=⟨_,rfl⟩
   replace H : (if 0 ≤ (ji21) then (if 0 ≤ x27_1 then (if x27_1 < (x253001_1.length : Int) then ((some (x253001_1.set (x27_1 : Int).toNat (⟨(a_a x253001_1 x27_1).f0,(a_a x253001_1 x27_1).f1,(a_a x253001_1 x27_1).f2,(a_a x253001_1 x27_1).f3,(a_a x253001_1 x27_1).f4,(a_a x253001_1 x27_1).f5,(a_a x253001_1 x27_1).f6,((shl .u32 1 (ji21)) - 1) % 4294967296,(a_a x253001_1 x27_1).f8,(a_a x253001_1 x27_1).f9,(a_a x253001_1 x27_1).f10⟩ : S33) : List (S33))).bind fun y260 => ((some (y260.set (x27_1 : Int).toNat (⟨(a_a y260 x27_1).f0,(a_a y260 x27_1).f1,0,(a_a y260 x27_1).f3,(a_a y260 x27_1).f4,(a_a y260 x27_1).f5,(a_a y260 x27_1).f6,(a_a y260 x27_1).f7,(a_a y260 x27_1).f8,(a_a y260 x27_1).f9,(a_a y260 x27_1).f10⟩ : S33) : List (S33))).bind fun y261 => (if (a_a x253001_1 x27_1).f5 = true then (a_m.j1 k1 (ji21) x5_1 x6_1 x27_1 (y257.length : Int) x27_1 (!((a_a x253001_1 x27_1).f6)) a0_0 y261) else (a_m.j1 k1 (ji21) x5_1 x6_1 x27_1 (y257.length : Int) x27_1 false a0_0 y261)))) else (none)) else (none)) else (none)) = some r:=by first|(rw [hji21] at H;exact H)|(simp only [hji21] at H ⊢; exact H)
   by_cases c22 : 0 ≤ (ji21)
   rotate_left
   ·rw [if_neg c22] at H
    exact absurd H (by simp)
   rw [if_pos c22] at H
   have c22b0:=eq_true c22
   have c22b1 : decide (0 ≤ (ji21)) = true:=decide_eq_true c22
   clear c22
   obtain ⟨ji23,hji23⟩ : ∃ j_ : Int,(shl .u32 1 (ji21)) = j_:=⟨_,rfl⟩
   replace H : (if 0 ≤ x27_1 then (if x27_1 < (x253001_1.length : Int) then ((some (x253001_1.set (x27_1 : Int).toNat (⟨(a_a x253001_1 x27_1).f0,(a_a x253001_1 x27_1).f1,(a_a x253001_1 x27_1).f2,(a_a x253001_1 x27_1).f3,(a_a x253001_1 x27_1).f4,(a_a x253001_1 x27_1).f5,(a_a x253001_1 x27_1).f6,((ji23) - 1) % 4294967296,(a_a x253001_1 x27_1).f8,(a_a x253001_1 x27_1).f9,(a_a x253001_1 x27_1).f10⟩ : S33) : List (S33))).bind fun y260 => ((some (y260.set (x27_1 : Int).toNat (⟨(a_a y260 x27_1).f0,(a_a y260 x27_1).f1,0,(a_a y260 x27_1).f3,(a_a y260 x27_1).f4,(a_a y260 x27_1).f5,(a_a y260 x27_1).f6,(a_a y260 x27_1).f7,(a_a y260 x27_1).f8,(a_a y260 x27_1).f9,(a_a y260 x27_1).f10⟩ : S33) : List (S33))).bind fun y261 => (if (a_a x253001_1 x27_1).f5 = true then (a_m.j1 k1 (ji21) x5_1 x6_1 x27_1 (y257.length : Int) x27_1 (!((a_a x253001_1 x27_1).f6)) a0_0 y261) else (a_m.j1 k1 (ji21) x5_1 x6_1 x27_1 (y257.length : Int) x27_1 false a0_0 y261)))) else (none)) else (none)) = some r:=by first|(rw [hji23] at H;exact H)|(simp only [hji23] at H ⊢; exact H)
   have hji23_ : (IntKind.u32.wrap (1 * 2 ^ min (ji21).toNat 32)) = ji23:=hji23
   have hji23z : (ji21) ≤ 32 → (IntKind.u32.wrap (1 * 2 ^ (ji21).toNat)) = ji23:=e_U hji23
   have hji23u : (IntKind.u32.wrap (2 ^ min (ji21).toNat 32)) = ji23:=by have h_:=hji23_;rw [Int.one_mul] at h_;exact h_
   have hji23v : (ji21) ≤ 32 → (IntKind.u32.wrap (2 ^ (ji21).toNat)) = ji23:=fun hle_ => by have h_:=hji23z hle_;rw [Int.one_mul] at h_;exact h_
   have hs23 : (2 ^ (ji21).toNat % 4294967296 : Int) = ji23:=by rw [← hji23v (by omega),IntKind.wrap_u32]
   by_cases c24 : 0 ≤ x27_1
   rotate_left
   ·rw [if_neg c24] at H
    exact absurd H (by simp)
   rw [if_pos c24] at H
   have c24b0 : decide (0 ≤ x27_1) = true:=decide_eq_true c24
   clear c24
   by_cases c25 : x27_1 < (x253001_1.length : Int)
   rotate_left
   ·rw [if_neg c25] at H
    exact absurd H (by simp)
   rw [if_pos c25] at H
   have c25b0 : decide (x27_1 < (x253001_1.length : Int)) = true:=decide_eq_true c25
   clear c25
   obtain ⟨y260,hy260⟩ : ∃ y_ : List (S33),y_ = (x253001_1.set (x27_1 : Int).toNat (⟨(a_a x253001_1 x27_1).f0,(a_a x253001_1 x27_1).f1,(a_a x253001_1 x27_1).f2,(a_a x253001_1 x27_1).f3,(a_a x253001_1 x27_1).f4,(a_a x253001_1 x27_1).f5,(a_a x253001_1 x27_1).f6,((ji23) - 1) % 4294967296,(a_a x253001_1 x27_1).f8,(a_a x253001_1 x27_1).f9,(a_a x253001_1 x27_1).f10⟩ : S33)):=⟨_,rfl⟩
   replace H : ((some (y260.set (x27_1 : Int).toNat (⟨(a_a y260 x27_1).f0,(a_a y260 x27_1).f1,0,(a_a y260 x27_1).f3,(a_a y260 x27_1).f4,(a_a y260 x27_1).f5,(a_a y260 x27_1).f6,(a_a y260 x27_1).f7,(a_a y260 x27_1).f8,(a_a y260 x27_1).f9,(a_a y260 x27_1).f10⟩ : S33) : List (S33))).bind fun y261 => (if (a_a x253001_1 x27_1).f5 = true then (a_m.j1 k1 (ji21) x5_1 x6_1 x27_1 (y257.length : Int) x27_1 (!((a_a x253001_1 x27_1).f6)) a0_0 y261) else (a_m.j1 k1 (ji21) x5_1 x6_1 x27_1 (y257.length : Int) x27_1 false a0_0 y261))) = some r:=by first|(rw [hy260];with_reducible exact H)|(have H2_:=(Option.bind_some _ _).symm.trans H;rw [hy260];with_reducible exact H2_)|(have H2_:=(Option.bind_some _ _).symm.trans H;with_reducible exact H2_)|with_reducible exact H|(rw [hy260];exact H)|exact H
   have Ny260:=a_f.mk hy260
   clear hy260
   obtain ⟨y261,hy261⟩ : ∃ y_ : List (S33),y_ = (y260.set (x27_1 : Int).toNat (⟨(a_a y260 x27_1).f0,(a_a y260 x27_1).f1,0,(a_a y260 x27_1).f3,(a_a y260 x27_1).f4,(a_a y260 x27_1).f5,(a_a y260 x27_1).f6,(a_a y260 x27_1).f7,(a_a y260 x27_1).f8,(a_a y260 x27_1).f9,(a_a y260 x27_1).f10⟩ : S33)):=⟨_,rfl⟩
   replace H : (if (a_a x253001_1 x27_1).f5 = true then (a_m.j1 k1 (ji21) x5_1 x6_1 x27_1 (y257.length : Int) x27_1 (!((a_a x253001_1 x27_1).f6)) a0_0 y261) else (a_m.j1 k1 (ji21) x5_1 x6_1 x27_1 (y257.length : Int) x27_1 false a0_0 y261)) = some r:=by first|(rw [hy261];with_reducible exact H)|(have H2_:=(Option.bind_some _ _).symm.trans H;rw [hy261];with_reducible exact H2_)|(have H2_:=(Option.bind_some _ _).symm.trans H;with_reducible exact H2_)|with_reducible exact H|(rw [hy261];exact H)|exact H
   have Ny261:=a_f.mk hy261
   clear hy261
   have HC29:=a_f.mk H
   clear H
   try go_wp2
   replace a_C:=a_f.mk (Kd.e_J a_C.out)
   replace a_W:=a_f.mk (a_g a_W.out)
   replace HB:=a_f.mk (a_k HB.out)
   have p26 : 0 ≤ (x27_1 : Int):=of_decide_eq_true (by first|(with_reducible assumption)|assumption)
   have q26 : (x27_1 : Int) < ((x253001_1.length : Int) : Int):=of_decide_eq_true (by first|(with_reducible assumption)|assumption)
   obtain ⟨go26,co26,eo26,gb26,gl26,cl26,HG26⟩:=Kd.r_h a_C.out (by omega)
   (first|cases eo26|(injection eo26 with ea_ en_ ec_;(first|subst ea_|(injection ea_ with ea_;subst ea_));subst ec_;clear en_))
   have GB26:=a_f.mk gb26
   have GG26:=a_f.mk HG26
   clear gb26 gl26 HG26
   obtain ⟨ce26,hcl26,hM26,hcc26,hfr26⟩:=Kd.h_C a_C.out z33 (x27_1 : Int) p26 q26
   obtain rfl:=f_F hM26
   have m_Z : World.cell? _ ⟨go26,(x27_1 : Int).toNat * 11,none⟩ = some (.int .i64 ((a_a x253001_1 x27_1).f0)):=hcc26 0 _ rfl
   have m_0 : World.cell? _ ⟨go26,(x27_1 : Int).toNat * 11 + 1,none⟩ = some (.int .i64 ((a_a x253001_1 x27_1).f1)):=hcc26 1 _ rfl
   have m_1 : World.cell? _ ⟨go26,(x27_1 : Int).toNat * 11 + 2,none⟩ = some (.int .i64 ((a_a x253001_1 x27_1).f2)):=hcc26 2 _ rfl
   have m_2 : World.cell? _ ⟨go26,(x27_1 : Int).toNat * 11 + 3,none⟩ = some (.int .i64 ((a_a x253001_1 x27_1).f3)):=hcc26 3 _ rfl
   have m_3 : World.cell? _ ⟨go26,(x27_1 : Int).toNat * 11 + 4,none⟩ = some (.int .i64 ((a_a x253001_1 x27_1).f4)):=hcc26 4 _ rfl
   have m_4 : World.cell? _ ⟨go26,(x27_1 : Int).toNat * 11 + 5,none⟩ = some (.bool ((a_a x253001_1 x27_1).f5)):=hcc26 5 _ rfl
   have m_5 : World.cell? _ ⟨go26,(x27_1 : Int).toNat * 11 + 6,none⟩ = some (.bool ((a_a x253001_1 x27_1).f6)):=hcc26 6 _ rfl
   have m_6 : World.cell? _ ⟨go26,(x27_1 : Int).toNat * 11 + 7,none⟩ = some (.int .u32 ((a_a x253001_1 x27_1).f7)):=hcc26 7 _ rfl
   have m_7 : World.cell? _ ⟨go26,(x27_1 : Int).toNat * 11 + 8,none⟩ = some (.int .i64 ((a_a x253001_1 x27_1).f8)):=hcc26 8 _ rfl
   have m_8 : World.cell? _ ⟨go26,(x27_1 : Int).toNat * 11 + 9,none⟩ = some (.int .i64 ((a_a x253001_1 x27_1).f9)):=hcc26 9 _ rfl
   have l_Q : World.cell? _ ⟨go26,(x27_1 : Int).toNat * 11 + 10,none⟩ = some (.int .i64 ((a_a x253001_1 x27_1).f10)):=hcc26 10 _ rfl
   have hf26_0 : World.frozen? _ ⟨go26,(x27_1 : Int).toNat * 11,none⟩ = false:=hfr26 0
   have hf26_1 : World.frozen? _ ⟨go26,(x27_1 : Int).toNat * 11 + 1,none⟩ = false:=hfr26 1
   have hf26_2 : World.frozen? _ ⟨go26,(x27_1 : Int).toNat * 11 + 2,none⟩ = false:=hfr26 2
   have hf26_3 : World.frozen? _ ⟨go26,(x27_1 : Int).toNat * 11 + 3,none⟩ = false:=hfr26 3
   have hf26_4 : World.frozen? _ ⟨go26,(x27_1 : Int).toNat * 11 + 4,none⟩ = false:=hfr26 4
   have hf26_5 : World.frozen? _ ⟨go26,(x27_1 : Int).toNat * 11 + 5,none⟩ = false:=hfr26 5
   have hf26_6 : World.frozen? _ ⟨go26,(x27_1 : Int).toNat * 11 + 6,none⟩ = false:=hfr26 6
   have hf26_7 : World.frozen? _ ⟨go26,(x27_1 : Int).toNat * 11 + 7,none⟩ = false:=hfr26 7
   have hf26_8 : World.frozen? _ ⟨go26,(x27_1 : Int).toNat * 11 + 8,none⟩ = false:=hfr26 8
   have hf26_9 : World.frozen? _ ⟨go26,(x27_1 : Int).toNat * 11 + 9,none⟩ = false:=hfr26 9
   have hf26_10 : World.frozen? _ ⟨go26,(x27_1 : Int).toNat * 11 + 10,none⟩ = false:=hfr26 10
   clear hcl26 hcc26 hfr26 hM26
   replace p26:=eq_true p26
   replace q26:=eq_true q26
   obtain ⟨ce31,hcl31,hM31,hcc31,hfr31⟩:=Kd.h_C a_C.out z33 (x27_1 : Int) (of_decide_eq_true (by first|(with_reducible assumption)|assumption)) (by have h_ : (x27_1 : Int) < ((x253001_1.length : Int) : Int):=of_decide_eq_true (by first|(with_reducible assumption)|assumption);first|exact h_|(have e_:=(Kd.b_o a_C.out).1;omega)|simpa using h_)
   obtain rfl:=f_F hM31
   have HP31:=(Kd.r_l a_C.out (x27_1 : Int) (of_decide_eq_true (by first|(with_reducible assumption)|assumption)) (by have h_ : (x27_1 : Int) < ((x253001_1.length : Int) : Int):=of_decide_eq_true (by first|(with_reducible assumption)|assumption);first|exact h_|(have e_:=(Kd.b_o a_C.out).1;omega)|simpa using h_) (seg:=[.int .u32 (((ji23) - 1) % 4294967296)]) (j:=7) hcl31 hcc31 (show 8 ≤ 11 from by decide) (x':=(⟨(a_a x253001_1 x27_1).f0,(a_a x253001_1 x27_1).f1,(a_a x253001_1 x27_1).f2,(a_a x253001_1 x27_1).f3,(a_a x253001_1 x27_1).f4,(a_a x253001_1 x27_1).f5,(a_a x253001_1 x27_1).f6,((ji23) - 1) % 4294967296,(a_a x253001_1 x27_1).f8,(a_a x253001_1 x27_1).f9,(a_a x253001_1 x27_1).f10⟩ : S33)) (h_t _ _ _ (⟨(a_a x253001_1 x27_1).f0,(a_a x253001_1 x27_1).f1,(a_a x253001_1 x27_1).f2,(a_a x253001_1 x27_1).f3,(a_a x253001_1 x27_1).f4,(a_a x253001_1 x27_1).f5,(a_a x253001_1 x27_1).f6,((ji23) - 1) % 4294967296,(a_a x253001_1 x27_1).f8,(a_a x253001_1 x27_1).f9,(a_a x253001_1 x27_1).f10⟩ : S33) ) (fun _ hk => hk)).1
   rw [← Ny260.out] at HP31
   have HQ31:=a_f.mk HP31
   clear hcl31 hcc31 hfr31 hM31 HP31
   have p27 : 0 ≤ (x27_1 : Int):=of_decide_eq_true (by first|(with_reducible assumption)|assumption)
   have q27 : (x27_1 : Int) < ((x253001_1.length : Int) : Int):=of_decide_eq_true (by first|(with_reducible assumption)|assumption)
   replace p27:=eq_true p27
   replace q27:=eq_true q27
   obtain ⟨ce32,hcl32,hM32,hcc32,hfr32⟩:=Kd.h_C HQ31.out z33 (x27_1 : Int) (of_decide_eq_true (by first|(with_reducible assumption)|assumption)) (by have h_ : (x27_1 : Int) < ((x253001_1.length : Int) : Int):=of_decide_eq_true (by first|(with_reducible assumption)|assumption);first|exact h_|(have e_:=(Kd.b_o a_C.out).1;omega)|simpa using h_)
   obtain rfl:=f_F hM32
   have HP32:=(Kd.r_l HQ31.out (x27_1 : Int) (of_decide_eq_true (by first|(with_reducible assumption)|assumption)) (by have h_ : (x27_1 : Int) < ((x253001_1.length : Int) : Int):=of_decide_eq_true (by first|(with_reducible assumption)|assumption);first|exact h_|(have e_:=(Kd.b_o a_C.out).1;omega)|simpa using h_) (seg:=[.int .i64 0]) (j:=2) hcl32 hcc32 (show 3 ≤ 11 from by decide) (x':=(⟨(a_a y260 x27_1).f0,(a_a y260 x27_1).f1,0,(a_a y260 x27_1).f3,(a_a y260 x27_1).f4,(a_a y260 x27_1).f5,(a_a y260 x27_1).f6,(a_a y260 x27_1).f7,(a_a y260 x27_1).f8,(a_a y260 x27_1).f9,(a_a y260 x27_1).f10⟩ : S33)) (h_t _ _ _ (⟨(a_a y260 x27_1).f0,(a_a y260 x27_1).f1,0,(a_a y260 x27_1).f3,(a_a y260 x27_1).f4,(a_a y260 x27_1).f5,(a_a y260 x27_1).f6,(a_a y260 x27_1).f7,(a_a y260 x27_1).f8,(a_a y260 x27_1).f9,(a_a y260 x27_1).f10⟩ : S33) ) (fun _ hk => hk)).1
   rw [← Ny261.out] at HP32
   have HQ32:=a_f.mk HP32
   clear hcl32 hcc32 hfr32 hM32 HP32
   refine d_R (n:=15) (S:=fun w' => w'.cell? ⟨c_b,0,none⟩ = some (.int .i64 a0_0) ∧ w'.cell? ⟨c_b,1,none⟩ = some (.slice (some ⟨go26,0,none⟩) x253001_1.length co26)) (ds:=[]) #[F_,F_,F_,F_,F_,F_,F_,F_,F_,F_,F_,F_,F_,F_,F_] (by kernel_rfl) rfl rfl ⟨(a_b a_W.out 0).trans rfl,(a_b a_W.out 1).trans rfl⟩ (fun hHeld => ?_);refine b_5 a_m.m_N a_m.j_H (fun HT_ HW_ => ?_)
   generalize wr.drew = w30 at a_C a_W HB GG26 HQ31 HQ32 hf26_0 hf26_1 hf26_10 hf26_2 hf26_3 hf26_4 hf26_5 hf26_6 hf26_7 hf26_8 hf26_9 m_Z m_0 l_Q m_1 m_2 m_3 m_4 m_5 m_6 m_7 m_8 hHeld ⊢
   refine f_U (i:=0) (N:=some 30) (v:=?_) (a':=?_) #[T_,F_,F_,F_,F_,F_,F_,F_,F_,F_,F_,F_,F_,F_,F_] rfl rfl (e_r HT_.out (by kernel_rfl)) (fun _ _ _ h => h) (Or.inl ⟨by rfl,?_⟩) ?_ ?_
   rotate_left
   ·intro w'
    go_simp
    with_reducible rfl
   rotate_left
   ·simp only [Act.put,sa_,sb_,sc_,a_Y,a_0,IntKind.wrap_u32]
    rfl
   refine f_U (i:=2) (N:=some 32) (v:=?_) (a':=?_) #[T_,F_,T_,F_,F_,F_,F_,F_,F_,F_,F_,F_,F_,F_,F_] rfl rfl (e_r HT_.out (by kernel_rfl)) (fun _ _ _ h => h) (Or.inl ⟨by rfl,?_⟩) ?_ ?_
   rotate_left
   ·intro w'
    go_simp
    with_reducible rfl
   rotate_left
   ·simp only [Act.put,sa_,sb_,sc_,a_Y,a_0,IntKind.wrap_u32]
    rfl
   refine f_U (i:=3) (N:=some 33) (v:=?_) (a':=?_) #[T_,F_,T_,T_,F_,F_,F_,F_,F_,F_,F_,F_,F_,F_,F_] rfl rfl (e_r HT_.out (by kernel_rfl)) (fun _ _ _ h => h) (Or.inl ⟨by rfl,?_⟩) ?_ ?_
   rotate_left
   ·intro w'
    go_simp
    with_reducible rfl
   rotate_left
   ·simp only [Act.put,sa_,sb_,sc_,a_Y,a_0,IntKind.wrap_u32]
    rfl
   refine f_U (i:=5) (N:=some 35) (v:=?_) (a':=?_) #[T_,F_,T_,T_,F_,T_,F_,F_,F_,F_,F_,F_,F_,F_,F_] rfl rfl (e_r HT_.out (by kernel_rfl)) (fun _ _ _ h => h) (Or.inl ⟨by rfl,?_⟩) ?_ ?_
   rotate_left
   ·intro w'
    go_simp
    with_reducible rfl
   rotate_left
   ·simp only [Act.put,sa_,sb_,sc_,a_Y,a_0,IntKind.wrap_u32]
    rfl
   refine f_U (i:=6) (N:=some 36) (v:=?_) (a':=?_) #[T_,F_,T_,T_,F_,T_,T_,F_,F_,F_,F_,F_,F_,F_,F_] rfl rfl (e_r HT_.out (by kernel_rfl)) (fun _ _ _ h => h) (Or.inl ⟨by rfl,?_⟩) ?_ ?_
   rotate_left
   ·intro w'
    go_simp
    with_reducible rfl
   rotate_left
   ·simp only [Act.put,sa_,sb_,sc_,a_Y,a_0,IntKind.wrap_u32]
    rfl
   refine f_U (i:=7) (N:=some 37) (v:=?_) (a':=?_) #[T_,F_,T_,T_,F_,T_,T_,T_,F_,F_,F_,F_,F_,F_,F_] rfl rfl (e_r HT_.out (by kernel_rfl)) (fun _ _ _ h => h) (Or.inl ⟨by rfl,?_⟩) ?_ ?_
   rotate_left
   ·intro w'
    go_simp
    with_reducible rfl
   rotate_left
   ·simp only [Act.put,sa_,sb_,sc_,a_Y,a_0,IntKind.wrap_u32]
    rfl
   refine f_U (i:=8) (N:=some 38) (v:=?_) (a':=?_) #[T_,F_,T_,T_,F_,T_,T_,T_,T_,F_,F_,F_,F_,F_,F_] rfl rfl (e_r HT_.out (by kernel_rfl)) (fun _ _ _ h => h) (Or.inl ⟨by rfl,?_⟩) ?_ ?_
   rotate_left
   ·intro w'
    go_simp
    with_reducible rfl
   rotate_left
   ·simp only [Act.put,sa_,sb_,sc_,a_Y,a_0,IntKind.wrap_u32]
    rfl
   refine b_v (i:=1) (N:=some 31) (v:=?_) (a':=?_) #[T_,T_,T_,T_,F_,T_,T_,T_,T_,F_,F_,F_,F_,F_,F_] rfl rfl (a_N HT_.out HW_.out (by kernel_rfl)) (fun _ _ _ h => h) (Or.inl ⟨by rfl,?_⟩) hHeld ?_ ?_
   rotate_left
   ·rintro w' ⟨s0,s1⟩
    go_simp
    with_reducible rfl
   rotate_left
   ·simp only [Act.put,sa_,sb_,sc_,a_Y,a_0,IntKind.wrap_u32]
    rfl
   refine f_U (i:=9) (N:=some 39) (v:=?_) (a':=?_) #[T_,T_,T_,T_,F_,T_,T_,T_,T_,T_,F_,F_,F_,F_,F_] rfl rfl (e_r HT_.out (by kernel_rfl)) (fun _ _ _ h => h) (Or.inl ⟨by rfl,?_⟩) ?_ ?_
   rotate_left
   ·intro w'
    go_simp
    with_reducible rfl
   rotate_left
   ·simp only [Act.put,sa_,sb_,sc_,a_Y,a_0,IntKind.wrap_u32]
    rfl
   refine f_U (i:=10) (N:=some 40) (v:=?_) (a':=?_) #[T_,T_,T_,T_,F_,T_,T_,T_,T_,T_,T_,F_,F_,F_,F_] rfl rfl (e_r HT_.out (by kernel_rfl)) (fun _ _ _ h => h) (Or.inl ⟨by rfl,?_⟩) ?_ ?_
   rotate_left
   ·intro w'
    go_simp
    with_reducible rfl
   rotate_left
   ·simp only [Act.put,sa_,sb_,sc_,a_Y,a_0,IntKind.wrap_u32]
    rfl
   refine b_v (i:=4) (N:=some 34) (v:=?_) (a':=?_) #[T_,T_,T_,T_,T_,T_,T_,T_,T_,T_,T_,F_,F_,F_,F_] rfl rfl (a_N HT_.out HW_.out (by kernel_rfl)) (fun _ _ _ h => h) (Or.inl ⟨by rfl,?_⟩) hHeld ?_ ?_
   rotate_left
   ·rintro w' ⟨s0,s1⟩
    go_simp
    with_reducible rfl
   rotate_left
   ·simp only [Act.put,sa_,sb_,sc_,a_Y,a_0,IntKind.wrap_u32]
    rfl
   refine one_ (i:=11) (N:=none) #[T_,T_,T_,T_,T_,T_,T_,T_,T_,T_,T_,T_,F_,F_,F_] rfl rfl (c_B HT_.out (by kernel_rfl)) (by decide) (fun K hK => ?_)
   refine m_M (w1:=?_) (by rfl) rfl ?_ ?_
   rotate_left
   ·go_simp
    rfl
   refine hK.out _ _ ⟨((cell_far (p:=⟨go26,_,none⟩) (by have h_:=Kd.R_ne a_C.out a_W.out (by decide);intro e_;exact h_ (by (try dsimp only at e_);rw [e_];rfl)) _).trans (hHeld.1)),((cell_far (p:=⟨go26,_,none⟩) (by have h_:=Kd.R_ne a_C.out a_W.out (by decide);intro e_;exact h_ (by (try dsimp only at e_);rw [e_];rfl)) _).trans (hHeld.2))⟩ (fun hHeld => ?_)
   clear hK K
   refine f_U (i:=12) (N:=some 41) (v:=?_) (a':=?_) #[T_,T_,T_,T_,T_,T_,T_,T_,T_,T_,T_,T_,T_,F_,F_] rfl rfl (e_r HT_.out (by kernel_rfl)) (fun _ _ _ h => h) (Or.inl ⟨by rfl,?_⟩) ?_ ?_
   rotate_left
   ·intro w'
    go_simp
    with_reducible rfl
   rotate_left
   ·simp only [Act.put,sa_,sb_,sc_,a_Y,a_0,IntKind.wrap_u32]
    rfl
   refine f_U (i:=13) (N:=some 42) (v:=?_) (a':=?_) #[T_,T_,T_,T_,T_,T_,T_,T_,T_,T_,T_,T_,T_,T_,F_] rfl rfl (e_r HT_.out (by kernel_rfl)) (fun _ _ _ h => h) (Or.inl ⟨by rfl,?_⟩) ?_ ?_
   rotate_left
   ·intro w'
    go_simp
    with_reducible rfl
   rotate_left
   ·simp only [Act.put,sa_,sb_,sc_,a_Y,a_0,IntKind.wrap_u32]
    rfl
   refine one_ (i:=14) (N:=none) #[T_,T_,T_,T_,T_,T_,T_,T_,T_,T_,T_,T_,T_,T_,T_] rfl rfl (c_B HT_.out (by kernel_rfl)) (by decide) (fun K hK => ?_)
   refine m_M (w1:=?_) (by rfl) rfl ?_ ?_
   rotate_left
   ·go_simp
    rfl
   refine hK.out _ _ ⟨((cell_far (p:=⟨go26,_,none⟩) (by have h_:=Kd.R_ne a_C.out a_W.out (by decide);intro e_;exact h_ (by (try dsimp only at e_);rw [e_];rfl)) _).trans (hHeld.1)),((cell_far (p:=⟨go26,_,none⟩) (by have h_:=Kd.R_ne a_C.out a_W.out (by decide);intro e_;exact h_ (by (try dsimp only at e_);rw [e_];rfl)) _).trans (hHeld.2))⟩ (fun hHeld => ?_)
   clear hK K
   refine e_L (c_Z HT_.out (by kernel_rfl)) ?_
   have n0_ : a_f (Kd.R k33 33 ((w30.setCell ⟨go26,(x27_1 : Int).toNat * 11 + 7,none⟩ (.int .u32 (((ji23) - 1) % 4294967296))).setCell ⟨go26,(x27_1 : Int).toNat * 11 + 2,none⟩ (.int .i64 0)) w.heap.size (fun _ => True) (.slice (some ⟨go26,0,none⟩) x253001_1.length co26) y261):=⟨by (with_reducible repeat (first|apply Kd.e_h|apply Kd.e_i|apply Kd.e_J));exact HQ32.out⟩
   have n1_ : a_f (((w30.setCell ⟨go26,(x27_1 : Int).toNat * 11 + 7,none⟩ (.int .u32 (((ji23) - 1) % 4294967296))).setCell ⟨go26,(x27_1 : Int).toNat * 11 + 2,none⟩ (.int .i64 0)).heap[c_b]? = some (.cells #[.int .i64 a0_0,.slice (some ⟨go26,0,none⟩) x253001_1.length co26] 24 (0,0))):=⟨by (with_reducible repeat (first|refine a_e ?_ _|refine a_g ?_|refine a_d ?_ _));refine a_p ?_ (by have h_:=Kd.R_ne a_C.out a_W.out (by decide);intro e_;exact h_ (by rw [e_];rfl)) _;(with_reducible repeat (first|refine a_e ?_ _|refine a_g ?_|refine a_d ?_ _));refine a_p ?_ (by have h_:=Kd.R_ne a_C.out a_W.out (by decide);intro e_;exact h_ (by rw [e_];rfl)) _;(with_reducible repeat (first|refine a_e ?_ _|refine a_g ?_|refine a_d ?_ _));exact a_W.out⟩
   have n2_ : a_f (Below w.heap.size w ((w30.setCell ⟨go26,(x27_1 : Int).toNat * 11 + 7,none⟩ (.int .u32 (((ji23) - 1) % 4294967296))).setCell ⟨go26,(x27_1 : Int).toNat * 11 + 2,none⟩ (.int .i64 0))):=⟨by repeat (first|(with_reducible first|exact HB.out|apply a_j|apply a_h|apply a_k|refine a_i ?_ GB26.out|refine a_i ?_ GB26.out|refine a_i ?_ c_P.out)|exact HB.out)⟩
   (try clear a_C)
   (try clear a_W)
   (try clear HB)
   generalize ((w30.setCell ⟨go26,(x27_1 : Int).toNat * 11 + 7,none⟩ (.int .u32 (((ji23) - 1) % 4294967296))).setCell ⟨go26,(x27_1 : Int).toNat * 11 + 2,none⟩ (.int .i64 0)) = w33 at n0_ n1_ n2_ ⊢
   have a_C:=n0_
   have a_W:=n1_
   have HB:=n2_
   clear n0_ n1_ n2_
   have i_D : w33.cell? ⟨c_b,0,none⟩ = some (.int .i64 a0_0):=(a_b a_W.out 0).trans rfl
   have i_E : w33.cell? ⟨c_b,1,none⟩ = some (.slice (some ⟨go26,0,none⟩) x253001_1.length co26):=(a_b a_W.out 1).trans rfl
   have i_2:=a_c a_W.out 0
   have i_3:=a_c a_W.out 1
   have p28 : 0 ≤ (x27_1 : Int):=of_decide_eq_true (by first|(with_reducible assumption)|assumption)
   have q28 : (x27_1 : Int) < ((x253001_1.length : Int) : Int):=of_decide_eq_true (by first|(with_reducible assumption)|assumption)
   replace p28:=eq_true p28
   replace q28:=eq_true q28
   have p99 : 0 ≤ (x27_1 : Int):=of_decide_eq_true (by first|(with_reducible assumption)|assumption)
   have r99 : (x27_1 : Int) < ((x253001_1.length : Int) : Int):=of_decide_eq_true (by first|(with_reducible assumption)|assumption)
   have he99 : a_a y261 x27_1 = (⟨(a_a x253001_1 x27_1).f0,(a_a x253001_1 x27_1).f1,0,(a_a x253001_1 x27_1).f3,(a_a x253001_1 x27_1).f4,(a_a x253001_1 x27_1).f5,(a_a x253001_1 x27_1).f6,((ji23) - 1) % 4294967296,(a_a x253001_1 x27_1).f8,(a_a x253001_1 x27_1).f9,(a_a x253001_1 x27_1).f10⟩ : S33):=by rw [Ny261.out,Ny260.out,j_R (by rw [List.length_set];omega),j_R (by omega)]
   obtain ⟨ce99,hcl99,hM99,hcc99,hfr99⟩:=Kd.h_C a_C.out z33 (x27_1 : Int) p99 r99
   obtain rfl:=f_F hM99
   have y_O : World.cell? w33 ⟨go26,(x27_1 : Int).toNat * 11,none⟩ = some (.int .i64 ((a_a x253001_1 x27_1).f0)):=by have h_:=hcc99 0 _ rfl;rw [show y261.getD (x27_1 : Int).toNat z33 = _ from he99] at h_;exact h_
   have y_P : World.cell? w33 ⟨go26,(x27_1 : Int).toNat * 11 + 1,none⟩ = some (.int .i64 ((a_a x253001_1 x27_1).f1)):=by have h_:=hcc99 1 _ rfl;rw [show y261.getD (x27_1 : Int).toNat z33 = _ from he99] at h_;exact h_
   have y_Q : World.cell? w33 ⟨go26,(x27_1 : Int).toNat * 11 + 2,none⟩ = some (.int .i64 (0)):=by have h_:=hcc99 2 _ rfl;rw [show y261.getD (x27_1 : Int).toNat z33 = _ from he99] at h_;exact h_
   have y_R : World.cell? w33 ⟨go26,(x27_1 : Int).toNat * 11 + 3,none⟩ = some (.int .i64 ((a_a x253001_1 x27_1).f3)):=by have h_:=hcc99 3 _ rfl;rw [show y261.getD (x27_1 : Int).toNat z33 = _ from he99] at h_;exact h_
   have y_S : World.cell? w33 ⟨go26,(x27_1 : Int).toNat * 11 + 4,none⟩ = some (.int .i64 ((a_a x253001_1 x27_1).f4)):=by have h_:=hcc99 4 _ rfl;rw [show y261.getD (x27_1 : Int).toNat z33 = _ from he99] at h_;exact h_
   have y_T : World.cell? w33 ⟨go26,(x27_1 : Int).toNat * 11 + 5,none⟩ = some (.bool ((a_a x253001_1 x27_1).f5)):=by have h_:=hcc99 5 _ rfl;rw [show y261.getD (x27_1 : Int).toNat z33 = _ from he99] at h_;exact h_
   have y_U : World.cell? w33 ⟨go26,(x27_1 : Int).toNat * 11 + 6,none⟩ = some (.bool ((a_a x253001_1 x27_1).f6)):=by have h_:=hcc99 6 _ rfl;rw [show y261.getD (x27_1 : Int).toNat z33 = _ from he99] at h_;exact h_
   have y_V : World.cell? w33 ⟨go26,(x27_1 : Int).toNat * 11 + 7,none⟩ = some (.int .u32 (((ji23) - 1) % 4294967296)):=by have h_:=hcc99 7 _ rfl;rw [show y261.getD (x27_1 : Int).toNat z33 = _ from he99] at h_;exact h_
   have y_W : World.cell? w33 ⟨go26,(x27_1 : Int).toNat * 11 + 8,none⟩ = some (.int .i64 ((a_a x253001_1 x27_1).f8)):=by have h_:=hcc99 8 _ rfl;rw [show y261.getD (x27_1 : Int).toNat z33 = _ from he99] at h_;exact h_
   have y_X : World.cell? w33 ⟨go26,(x27_1 : Int).toNat * 11 + 9,none⟩ = some (.int .i64 ((a_a x253001_1 x27_1).f9)):=by have h_:=hcc99 9 _ rfl;rw [show y261.getD (x27_1 : Int).toNat z33 = _ from he99] at h_;exact h_
   have y_d : World.cell? w33 ⟨go26,(x27_1 : Int).toNat * 11 + 10,none⟩ = some (.int .i64 ((a_a x253001_1 x27_1).f10)):=by have h_:=hcc99 10 _ rfl;rw [show y261.getD (x27_1 : Int).toNat z33 = _ from he99] at h_;exact h_
   clear hcl99 hM99 hcc99 hfr99 he99 p99 r99
   go_upto_region 13 with (first|((with_reducible refine a_J (N:=8) rfl ?_);(try (refine d_W (by rfl) ?_;dsimp only));refine a_A ?hg (N:=8) ?hd (cs:=#[.int .i64 0,.int .i64 0,.int .i64 0,.int .i64 0,.int .i64 0,.bool false,.bool false,.int .u32 0,.int .i64 0,.int .i64 0,.int .i64 0]) (t:=33) ?hr ?_;(case hd => rfl);(case hg => rfl);(case hr => first|(go_simp;done)|(go_simp;rfl));intro b_L hg w35 hbox hb;have n0_:=a_f.mk (Kd.c_i (Kd.m_d (rup_ a_C.out) b_L (Nat.le_of_eq hg.symm)) hb);have n1_:=a_f.mk (a_l (bup_ a_W.out) hb);have n2_:=a_f.mk (a_q (by repeat (first|(with_reducible first|exact HB.out|apply a_j|apply a_h|apply a_k|refine a_i ?_ c_P.out)|exact HB.out)) hb);have n3_:=a_f.mk (hbox);have n4_:=a_f.mk ((by rw [hg];exact (a_o (by repeat (first|(with_reducible first|exact HB.out|apply a_j|apply a_h|apply a_k|refine a_i ?_ c_P.out)|exact HB.out))) : w.heap.size ≤ b_L));have n5_:=a_f.mk ((by rw [hg];exact (a_o (by repeat (first|(with_reducible first|exact HB.out|apply a_j|apply a_h|apply a_k|refine a_i ?_ c_P.out)|exact HB.out))) : w.heap.size ≤ b_L));have n6_:=a_f.mk ((by rw [hg];exact Nat.ne_of_lt (a_B (bup_ a_W.out)) : c_b ≠ b_L));have n7_:=a_f.mk ((by rw [hg];exact Nat.ne_of_gt (a_B (bup_ a_W.out)) : b_L ≠ c_b));clear a_C a_W HB;have a_C:=n0_;have a_W:=n1_;have HB:=n2_;have b_B:=n3_;have y_4:=n4_;have j_2:=n5_;have b_m:=n6_;have e_f:=n7_;clear n0_ n1_ n2_ n3_ n4_ n5_ n6_ n7_ hb hbox hg;have z_h:=e_f.out;have z_N:=b_m.out;have o_v : w35.cell? ⟨b_L,0,none⟩ = some (.int .i64 0):=(a_b b_B.out 0).trans rfl;have o_w : w35.cell? ⟨b_L,1,none⟩ = some (.int .i64 0):=(a_b b_B.out 1).trans rfl;have o_x : w35.cell? ⟨b_L,2,none⟩ = some (.int .i64 0):=(a_b b_B.out 2).trans rfl;have o_y : w35.cell? ⟨b_L,3,none⟩ = some (.int .i64 0):=(a_b b_B.out 3).trans rfl;have o_z : w35.cell? ⟨b_L,4,none⟩ = some (.int .i64 0):=(a_b b_B.out 4).trans rfl;have o_A : w35.cell? ⟨b_L,5,none⟩ = some (.bool false):=(a_b b_B.out 5).trans rfl;have o_B : w35.cell? ⟨b_L,6,none⟩ = some (.bool false):=(a_b b_B.out 6).trans rfl;have o_C : w35.cell? ⟨b_L,7,none⟩ = some (.int .u32 0):=(a_b b_B.out 7).trans rfl;have o_D : w35.cell? ⟨b_L,8,none⟩ = some (.int .i64 0):=(a_b b_B.out 8).trans rfl;have o_E : w35.cell? ⟨b_L,9,none⟩ = some (.int .i64 0):=(a_b b_B.out 9).trans rfl;have m_o : w35.cell? ⟨b_L,10,none⟩ = some (.int .i64 0):=(a_b b_B.out 10).trans rfl;have p_5:=a_c b_B.out 0;have p_6:=a_c b_B.out 1;have p_7:=a_c b_B.out 2;have p_8:=a_c b_B.out 3;have p_9:=a_c b_B.out 4;have q_a:=a_c b_B.out 5;have q_b:=a_c b_B.out 6;have q_d:=a_c b_B.out 7;have q_e:=a_c b_B.out 8;have q_f:=a_c b_B.out 9;have m_y:=a_c b_B.out 10))
   (try simp only [Act.put,sa_,sb_,sc_])
   go_cut [54] (fun v54 wc => ∃ (kq : Nat) (x54_28 : Bool),v54 = .bool x54_28 ∧ a_f (a_m.j1 kq (ji21) x5_1 x6_1 x27_1 (y257.length : Int) x27_1 x54_28 a0_0 y261 = some r) ∧ a_f (kq ≤ k1) ∧ a_f (Kd.R k33 33 wc w.heap.size (fun k_ => k_ ≠ b_L) (.slice (some ⟨go26,0,none⟩) x253001_1.length co26) y261) ∧ a_f (wc.heap[c_b]? = some (.cells #[.int .i64 a0_0,(.slice (some ⟨go26,0,none⟩) x253001_1.length co26)] 24 (0,0))) ∧ a_f (wc.heap[b_L]? = some (.cells #[.int .i64 ((a_a x253001_1 x27_1).f0),.int .i64 ((a_a x253001_1 x27_1).f1),.int .i64 0,.int .i64 ((a_a x253001_1 x27_1).f3),.int .i64 ((a_a x253001_1 x27_1).f4),.bool ((a_a x253001_1 x27_1).f5),.bool ((a_a x253001_1 x27_1).f6),.int .u32 (((ji23) - 1) % 4294967296),.int .i64 ((a_a x253001_1 x27_1).f8),.int .i64 ((a_a x253001_1 x27_1).f9),.int .i64 ((a_a x253001_1 x27_1).f10)] 33 (0,0))) ∧ a_f (Below w.heap.size w wc))
   case first =>
    have H:=HC29.out
    clear HC29
    obtain ⟨bq38,hbq38⟩ : ∃ b_ : Bool,b_ = ((a_a x253001_1 x27_1).f5):=⟨_,rfl⟩
    replace H : (if bq38 = true then (a_m.j1 k1 (ji21) x5_1 x6_1 x27_1 (y257.length : Int) x27_1 (!((a_a x253001_1 x27_1).f6)) a0_0 y261) else (a_m.j1 k1 (ji21) x5_1 x6_1 x27_1 (y257.length : Int) x27_1 false a0_0 y261)) = some r:=by rw [← hbq38] at H;exact H
    have Nbq38:=a_f.mk hbq38
    clear hbq38
    (try rw [← Nbq38.out])
    by_cases c39 : bq38 = true
    ·subst c39
     have H1 : (a_m.j1 k1 (ji21) x5_1 x6_1 x27_1 (y257.length : Int) x27_1 (!((a_a x253001_1 x27_1).f6)) a0_0 y261) = some r:=by rw [if_pos rfl] at H;exact H
     clear H
     have H:=H1
     clear H1
     have H':=a_f.mk H
     clear H
     have z_j:=e_f.out
     have z_P:=b_m.out
     have k_8 : w35.cell? ⟨b_L,0,none⟩ = some (.int .i64 0):=(a_b b_B.out 0).trans rfl
     have k_9 : w35.cell? ⟨b_L,1,none⟩ = some (.int .i64 0):=(a_b b_B.out 1).trans rfl
     have o_R : w35.cell? ⟨b_L,2,none⟩ = some (.int .i64 0):=(a_b b_B.out 2).trans rfl
     have o_S : w35.cell? ⟨b_L,3,none⟩ = some (.int .i64 0):=(a_b b_B.out 3).trans rfl
     have o_T : w35.cell? ⟨b_L,4,none⟩ = some (.int .i64 0):=(a_b b_B.out 4).trans rfl
     have o_U : w35.cell? ⟨b_L,5,none⟩ = some (.bool false):=(a_b b_B.out 5).trans rfl
     have o_V : w35.cell? ⟨b_L,6,none⟩ = some (.bool false):=(a_b b_B.out 6).trans rfl
     have o_W : w35.cell? ⟨b_L,7,none⟩ = some (.int .u32 0):=(a_b b_B.out 7).trans rfl
     have o_X : w35.cell? ⟨b_L,8,none⟩ = some (.int .i64 0):=(a_b b_B.out 8).trans rfl
     have o_Y : w35.cell? ⟨b_L,9,none⟩ = some (.int .i64 0):=(a_b b_B.out 9).trans rfl
     have m_q : w35.cell? ⟨b_L,10,none⟩ = some (.int .i64 0):=(a_b b_B.out 10).trans rfl
     have l_I:=a_c b_B.out 0
     have l_J:=a_c b_B.out 1
     have q_s:=a_c b_B.out 2
     have q_t:=a_c b_B.out 3
     have q_u:=a_c b_B.out 4
     have q_v:=a_c b_B.out 5
     have q_w:=a_c b_B.out 6
     have q_x:=a_c b_B.out 7
     have q_y:=a_c b_B.out 8
     have q_z:=a_c b_B.out 9
     have m_A:=a_c b_B.out 10
     go_wp2
     go_meet
     case rel => exact ⟨_,(!((a_a x253001_1 x27_1).f6)),(by first|rfl|(simp;done)|(simp [*];done)),H',⟨by have:=HK1.out;first|omega|exact Nat.le_refl _⟩,⟨by (with_reducible repeat (first|apply Kd.e_h|apply Kd.e_i|apply Kd.e_J));exact Kd.d_Q (Kd.d_T (p:=⟨b_L,10,none⟩) (Kd.d_T (p:=⟨b_L,9,none⟩) (Kd.d_T (p:=⟨b_L,8,none⟩) (Kd.d_T (p:=⟨b_L,7,none⟩) (Kd.d_T (p:=⟨b_L,6,none⟩) (Kd.d_T (p:=⟨b_L,5,none⟩) (Kd.d_T (p:=⟨b_L,4,none⟩) (Kd.d_T (p:=⟨b_L,3,none⟩) (Kd.d_T (p:=⟨b_L,2,none⟩) (Kd.d_T (p:=⟨b_L,1,none⟩) (Kd.d_T (p:=⟨b_L,0,none⟩) (Kd.d_Q a_C.out (fun k_ hk => (⟨hk,hk.2⟩ : _ ∧ k_ ≠ b_L))) (fun _ hk => hk.2) (.int .i64 ((a_a x253001_1 x27_1).f0))) (fun _ hk => hk.2) (.int .i64 ((a_a x253001_1 x27_1).f1))) (fun _ hk => hk.2) (.int .i64 0)) (fun _ hk => hk.2) (.int .i64 ((a_a x253001_1 x27_1).f3))) (fun _ hk => hk.2) (.int .i64 ((a_a x253001_1 x27_1).f4))) (fun _ hk => hk.2) (.bool (true))) (fun _ hk => hk.2) (.bool ((a_a x253001_1 x27_1).f6))) (fun _ hk => hk.2) (.int .u32 (((ji23) - 1) % 4294967296))) (fun _ hk => hk.2) (.int .i64 ((a_a x253001_1 x27_1).f8))) (fun _ hk => hk.2) (.int .i64 ((a_a x253001_1 x27_1).f9))) (fun _ hk => hk.2) (.int .i64 ((a_a x253001_1 x27_1).f10))) (fun _ hk => hk.1.2)⟩,⟨by (with_reducible repeat (first|refine a_e ?_ _|refine a_g ?_|refine a_d ?_ _));refine a_p ?_ b_m.out _;(with_reducible repeat (first|refine a_e ?_ _|refine a_g ?_|refine a_d ?_ _));refine a_p ?_ b_m.out _;(with_reducible repeat (first|refine a_e ?_ _|refine a_g ?_|refine a_d ?_ _));refine a_p ?_ b_m.out _;(with_reducible repeat (first|refine a_e ?_ _|refine a_g ?_|refine a_d ?_ _));refine a_p ?_ b_m.out _;(with_reducible repeat (first|refine a_e ?_ _|refine a_g ?_|refine a_d ?_ _));refine a_p ?_ b_m.out _;(with_reducible repeat (first|refine a_e ?_ _|refine a_g ?_|refine a_d ?_ _));refine a_p ?_ b_m.out _;(with_reducible repeat (first|refine a_e ?_ _|refine a_g ?_|refine a_d ?_ _));refine a_p ?_ b_m.out _;(with_reducible repeat (first|refine a_e ?_ _|refine a_g ?_|refine a_d ?_ _));refine a_p ?_ b_m.out _;(with_reducible repeat (first|refine a_e ?_ _|refine a_g ?_|refine a_d ?_ _));refine a_p ?_ b_m.out _;(with_reducible repeat (first|refine a_e ?_ _|refine a_g ?_|refine a_d ?_ _));refine a_p ?_ b_m.out _;(with_reducible repeat (first|refine a_e ?_ _|refine a_g ?_|refine a_d ?_ _));refine a_p ?_ b_m.out _;(with_reducible repeat (first|refine a_e ?_ _|refine a_g ?_|refine a_d ?_ _));exact a_W.out⟩,⟨by (with_reducible repeat (first|refine a_e ?_ _|refine a_g ?_|refine a_d ?_ _));refine a_n (cs:=#[.int .i64 ((a_a x253001_1 x27_1).f0),.int .i64 ((a_a x253001_1 x27_1).f1),.int .i64 0,.int .i64 ((a_a x253001_1 x27_1).f3),.int .i64 ((a_a x253001_1 x27_1).f4),.bool (true),.bool ((a_a x253001_1 x27_1).f6),.int .u32 (((ji23) - 1) % 4294967296),.int .i64 ((a_a x253001_1 x27_1).f8),.int .i64 ((a_a x253001_1 x27_1).f9),.int .i64 0]) ?_ 10 _ (by first|rfl|(simp only [← Nbq38.out];rfl));(with_reducible repeat (first|refine a_e ?_ _|refine a_g ?_|refine a_d ?_ _));refine a_n (cs:=#[.int .i64 ((a_a x253001_1 x27_1).f0),.int .i64 ((a_a x253001_1 x27_1).f1),.int .i64 0,.int .i64 ((a_a x253001_1 x27_1).f3),.int .i64 ((a_a x253001_1 x27_1).f4),.bool (true),.bool ((a_a x253001_1 x27_1).f6),.int .u32 (((ji23) - 1) % 4294967296),.int .i64 ((a_a x253001_1 x27_1).f8),.int .i64 0,.int .i64 0]) ?_ 9 _ rfl;(with_reducible repeat (first|refine a_e ?_ _|refine a_g ?_|refine a_d ?_ _));refine a_n (cs:=#[.int .i64 ((a_a x253001_1 x27_1).f0),.int .i64 ((a_a x253001_1 x27_1).f1),.int .i64 0,.int .i64 ((a_a x253001_1 x27_1).f3),.int .i64 ((a_a x253001_1 x27_1).f4),.bool (true),.bool ((a_a x253001_1 x27_1).f6),.int .u32 (((ji23) - 1) % 4294967296),.int .i64 0,.int .i64 0,.int .i64 0]) ?_ 8 _ rfl;(with_reducible repeat (first|refine a_e ?_ _|refine a_g ?_|refine a_d ?_ _));refine a_n (cs:=#[.int .i64 ((a_a x253001_1 x27_1).f0),.int .i64 ((a_a x253001_1 x27_1).f1),.int .i64 0,.int .i64 ((a_a x253001_1 x27_1).f3),.int .i64 ((a_a x253001_1 x27_1).f4),.bool (true),.bool ((a_a x253001_1 x27_1).f6),.int .u32 0,.int .i64 0,.int .i64 0,.int .i64 0]) ?_ 7 _ rfl;(with_reducible repeat (first|refine a_e ?_ _|refine a_g ?_|refine a_d ?_ _));refine a_n (cs:=#[.int .i64 ((a_a x253001_1 x27_1).f0),.int .i64 ((a_a x253001_1 x27_1).f1),.int .i64 0,.int .i64 ((a_a x253001_1 x27_1).f3),.int .i64 ((a_a x253001_1 x27_1).f4),.bool (true),.bool false,.int .u32 0,.int .i64 0,.int .i64 0,.int .i64 0]) ?_ 6 _ rfl;(with_reducible repeat (first|refine a_e ?_ _|refine a_g ?_|refine a_d ?_ _));refine a_n (cs:=#[.int .i64 ((a_a x253001_1 x27_1).f0),.int .i64 ((a_a x253001_1 x27_1).f1),.int .i64 0,.int .i64 ((a_a x253001_1 x27_1).f3),.int .i64 ((a_a x253001_1 x27_1).f4),.bool false,.bool false,.int .u32 0,.int .i64 0,.int .i64 0,.int .i64 0]) ?_ 5 _ rfl;(with_reducible repeat (first|refine a_e ?_ _|refine a_g ?_|refine a_d ?_ _));refine a_n (cs:=#[.int .i64 ((a_a x253001_1 x27_1).f0),.int .i64 ((a_a x253001_1 x27_1).f1),.int .i64 0,.int .i64 ((a_a x253001_1 x27_1).f3),.int .i64 0,.bool false,.bool false,.int .u32 0,.int .i64 0,.int .i64 0,.int .i64 0]) ?_ 4 _ rfl;(with_reducible repeat (first|refine a_e ?_ _|refine a_g ?_|refine a_d ?_ _));refine a_n (cs:=#[.int .i64 ((a_a x253001_1 x27_1).f0),.int .i64 ((a_a x253001_1 x27_1).f1),.int .i64 0,.int .i64 0,.int .i64 0,.bool false,.bool false,.int .u32 0,.int .i64 0,.int .i64 0,.int .i64 0]) ?_ 3 _ rfl;(with_reducible repeat (first|refine a_e ?_ _|refine a_g ?_|refine a_d ?_ _));refine a_n (cs:=#[.int .i64 ((a_a x253001_1 x27_1).f0),.int .i64 ((a_a x253001_1 x27_1).f1),.int .i64 0,.int .i64 0,.int .i64 0,.bool false,.bool false,.int .u32 0,.int .i64 0,.int .i64 0,.int .i64 0]) ?_ 2 _ rfl;(with_reducible repeat (first|refine a_e ?_ _|refine a_g ?_|refine a_d ?_ _));refine a_n (cs:=#[.int .i64 ((a_a x253001_1 x27_1).f0),.int .i64 0,.int .i64 0,.int .i64 0,.int .i64 0,.bool false,.bool false,.int .u32 0,.int .i64 0,.int .i64 0,.int .i64 0]) ?_ 1 _ rfl;(with_reducible repeat (first|refine a_e ?_ _|refine a_g ?_|refine a_d ?_ _));refine a_n (cs:=#[.int .i64 0,.int .i64 0,.int .i64 0,.int .i64 0,.int .i64 0,.bool false,.bool false,.int .u32 0,.int .i64 0,.int .i64 0,.int .i64 0]) ?_ 0 _ rfl;(with_reducible repeat (first|refine a_e ?_ _|refine a_g ?_|refine a_d ?_ _));exact b_B.out⟩,⟨by repeat (first|(with_reducible first|exact HB.out|apply a_j|apply a_h|apply a_k|refine a_i ?_ c_P.out|refine a_i ?_ j_2.out)|exact HB.out)⟩⟩
    replace c39:=Bool.eq_false_iff.mpr c39
    subst c39
    have H1 : (a_m.j1 k1 (ji21) x5_1 x6_1 x27_1 (y257.length : Int) x27_1 false a0_0 y261) = some r:=by rw [if_neg (show ¬ (false = true) by decide)] at H;exact H
    clear H
    have H:=H1
    clear H1
    have H':=a_f.mk H
    clear H
    have z_l:=e_f.out
    have z_R:=b_m.out
    have o_1 : w35.cell? ⟨b_L,0,none⟩ = some (.int .i64 0):=(a_b b_B.out 0).trans rfl
    have o_2 : w35.cell? ⟨b_L,1,none⟩ = some (.int .i64 0):=(a_b b_B.out 1).trans rfl
    have o_3 : w35.cell? ⟨b_L,2,none⟩ = some (.int .i64 0):=(a_b b_B.out 2).trans rfl
    have o_4 : w35.cell? ⟨b_L,3,none⟩ = some (.int .i64 0):=(a_b b_B.out 3).trans rfl
    have o_5 : w35.cell? ⟨b_L,4,none⟩ = some (.int .i64 0):=(a_b b_B.out 4).trans rfl
    have o_6 : w35.cell? ⟨b_L,5,none⟩ = some (.bool false):=(a_b b_B.out 5).trans rfl
    have o_7 : w35.cell? ⟨b_L,6,none⟩ = some (.bool false):=(a_b b_B.out 6).trans rfl
    have o_8 : w35.cell? ⟨b_L,7,none⟩ = some (.int .u32 0):=(a_b b_B.out 7).trans rfl
    have o_9 : w35.cell? ⟨b_L,8,none⟩ = some (.int .i64 0):=(a_b b_B.out 8).trans rfl
    have p_a : w35.cell? ⟨b_L,9,none⟩ = some (.int .i64 0):=(a_b b_B.out 9).trans rfl
    have m_r : w35.cell? ⟨b_L,10,none⟩ = some (.int .i64 0):=(a_b b_B.out 10).trans rfl
    have q_C:=a_c b_B.out 0
    have q_D:=a_c b_B.out 1
    have q_E:=a_c b_B.out 2
    have q_F:=a_c b_B.out 3
    have q_G:=a_c b_B.out 4
    have q_H:=a_c b_B.out 5
    have q_I:=a_c b_B.out 6
    have q_J:=a_c b_B.out 7
    have q_K:=a_c b_B.out 8
    have q_L:=a_c b_B.out 9
    have m_B:=a_c b_B.out 10
    go_wp2
    go_meet
    case rel => exact ⟨_,(false),(by first|rfl|(simp;done)|(simp [*];done)),H',⟨by have:=HK1.out;first|omega|exact Nat.le_refl _⟩,⟨by (with_reducible repeat (first|apply Kd.e_h|apply Kd.e_i|apply Kd.e_J));exact Kd.d_Q (Kd.d_T (p:=⟨b_L,10,none⟩) (Kd.d_T (p:=⟨b_L,9,none⟩) (Kd.d_T (p:=⟨b_L,8,none⟩) (Kd.d_T (p:=⟨b_L,7,none⟩) (Kd.d_T (p:=⟨b_L,6,none⟩) (Kd.d_T (p:=⟨b_L,5,none⟩) (Kd.d_T (p:=⟨b_L,4,none⟩) (Kd.d_T (p:=⟨b_L,3,none⟩) (Kd.d_T (p:=⟨b_L,2,none⟩) (Kd.d_T (p:=⟨b_L,1,none⟩) (Kd.d_T (p:=⟨b_L,0,none⟩) (Kd.d_Q a_C.out (fun k_ hk => (⟨hk,hk.2⟩ : _ ∧ k_ ≠ b_L))) (fun _ hk => hk.2) (.int .i64 ((a_a x253001_1 x27_1).f0))) (fun _ hk => hk.2) (.int .i64 ((a_a x253001_1 x27_1).f1))) (fun _ hk => hk.2) (.int .i64 0)) (fun _ hk => hk.2) (.int .i64 ((a_a x253001_1 x27_1).f3))) (fun _ hk => hk.2) (.int .i64 ((a_a x253001_1 x27_1).f4))) (fun _ hk => hk.2) (.bool (false))) (fun _ hk => hk.2) (.bool ((a_a x253001_1 x27_1).f6))) (fun _ hk => hk.2) (.int .u32 (((ji23) - 1) % 4294967296))) (fun _ hk => hk.2) (.int .i64 ((a_a x253001_1 x27_1).f8))) (fun _ hk => hk.2) (.int .i64 ((a_a x253001_1 x27_1).f9))) (fun _ hk => hk.2) (.int .i64 ((a_a x253001_1 x27_1).f10))) (fun _ hk => hk.1.2)⟩,⟨by (with_reducible repeat (first|refine a_e ?_ _|refine a_g ?_|refine a_d ?_ _));refine a_p ?_ b_m.out _;(with_reducible repeat (first|refine a_e ?_ _|refine a_g ?_|refine a_d ?_ _));refine a_p ?_ b_m.out _;(with_reducible repeat (first|refine a_e ?_ _|refine a_g ?_|refine a_d ?_ _));refine a_p ?_ b_m.out _;(with_reducible repeat (first|refine a_e ?_ _|refine a_g ?_|refine a_d ?_ _));refine a_p ?_ b_m.out _;(with_reducible repeat (first|refine a_e ?_ _|refine a_g ?_|refine a_d ?_ _));refine a_p ?_ b_m.out _;(with_reducible repeat (first|refine a_e ?_ _|refine a_g ?_|refine a_d ?_ _));refine a_p ?_ b_m.out _;(with_reducible repeat (first|refine a_e ?_ _|refine a_g ?_|refine a_d ?_ _));refine a_p ?_ b_m.out _;(with_reducible repeat (first|refine a_e ?_ _|refine a_g ?_|refine a_d ?_ _));refine a_p ?_ b_m.out _;(with_reducible repeat (first|refine a_e ?_ _|refine a_g ?_|refine a_d ?_ _));refine a_p ?_ b_m.out _;(with_reducible repeat (first|refine a_e ?_ _|refine a_g ?_|refine a_d ?_ _));refine a_p ?_ b_m.out _;(with_reducible repeat (first|refine a_e ?_ _|refine a_g ?_|refine a_d ?_ _));refine a_p ?_ b_m.out _;(with_reducible repeat (first|refine a_e ?_ _|refine a_g ?_|refine a_d ?_ _));exact a_W.out⟩,⟨by (with_reducible repeat (first|refine a_e ?_ _|refine a_g ?_|refine a_d ?_ _));refine a_n (cs:=#[.int .i64 ((a_a x253001_1 x27_1).f0),.int .i64 ((a_a x253001_1 x27_1).f1),.int .i64 0,.int .i64 ((a_a x253001_1 x27_1).f3),.int .i64 ((a_a x253001_1 x27_1).f4),.bool (false),.bool ((a_a x253001_1 x27_1).f6),.int .u32 (((ji23) - 1) % 4294967296),.int .i64 ((a_a x253001_1 x27_1).f8),.int .i64 ((a_a x253001_1 x27_1).f9),.int .i64 0]) ?_ 10 _ (by first|rfl|(simp only [← Nbq38.out];rfl));(with_reducible repeat (first|refine a_e ?_ _|refine a_g ?_|refine a_d ?_ _));refine a_n (cs:=#[.int .i64 ((a_a x253001_1 x27_1).f0),.int .i64 ((a_a x253001_1 x27_1).f1),.int .i64 0,.int .i64 ((a_a x253001_1 x27_1).f3),.int .i64 ((a_a x253001_1 x27_1).f4),.bool (false),.bool ((a_a x253001_1 x27_1).f6),.int .u32 (((ji23) - 1) % 4294967296),.int .i64 ((a_a x253001_1 x27_1).f8),.int .i64 0,.int .i64 0]) ?_ 9 _ rfl;(with_reducible repeat (first|refine a_e ?_ _|refine a_g ?_|refine a_d ?_ _));refine a_n (cs:=#[.int .i64 ((a_a x253001_1 x27_1).f0),.int .i64 ((a_a x253001_1 x27_1).f1),.int .i64 0,.int .i64 ((a_a x253001_1 x27_1).f3),.int .i64 ((a_a x253001_1 x27_1).f4),.bool (false),.bool ((a_a x253001_1 x27_1).f6),.int .u32 (((ji23) - 1) % 4294967296),.int .i64 0,.int .i64 0,.int .i64 0]) ?_ 8 _ rfl;(with_reducible repeat (first|refine a_e ?_ _|refine a_g ?_|refine a_d ?_ _));refine a_n (cs:=#[.int .i64 ((a_a x253001_1 x27_1).f0),.int .i64 ((a_a x253001_1 x27_1).f1),.int .i64 0,.int .i64 ((a_a x253001_1 x27_1).f3),.int .i64 ((a_a x253001_1 x27_1).f4),.bool (false),.bool ((a_a x253001_1 x27_1).f6),.int .u32 0,.int .i64 0,.int .i64 0,.int .i64 0]) ?_ 7 _ rfl;(with_reducible repeat (first|refine a_e ?_ _|refine a_g ?_|refine a_d ?_ _));refine a_n (cs:=#[.int .i64 ((a_a x253001_1 x27_1).f0),.int .i64 ((a_a x253001_1 x27_1).f1),.int .i64 0,.int .i64 ((a_a x253001_1 x27_1).f3),.int .i64 ((a_a x253001_1 x27_1).f4),.bool (false),.bool false,.int .u32 0,.int .i64 0,.int .i64 0,.int .i64 0]) ?_ 6 _ rfl;(with_reducible repeat (first|refine a_e ?_ _|refine a_g ?_|refine a_d ?_ _));refine a_n (cs:=#[.int .i64 ((a_a x253001_1 x27_1).f0),.int .i64 ((a_a x253001_1 x27_1).f1),.int .i64 0,.int .i64 ((a_a x253001_1 x27_1).f3),.int .i64 ((a_a x253001_1 x27_1).f4),.bool false,.bool false,.int .u32 0,.int .i64 0,.int .i64 0,.int .i64 0]) ?_ 5 _ rfl;(with_reducible repeat (first|refine a_e ?_ _|refine a_g ?_|refine a_d ?_ _));refine a_n (cs:=#[.int .i64 ((a_a x253001_1 x27_1).f0),.int .i64 ((a_a x253001_1 x27_1).f1),.int .i64 0,.int .i64 ((a_a x253001_1 x27_1).f3),.int .i64 0,.bool false,.bool false,.int .u32 0,.int .i64 0,.int .i64 0,.int .i64 0]) ?_ 4 _ rfl;(with_reducible repeat (first|refine a_e ?_ _|refine a_g ?_|refine a_d ?_ _));refine a_n (cs:=#[.int .i64 ((a_a x253001_1 x27_1).f0),.int .i64 ((a_a x253001_1 x27_1).f1),.int .i64 0,.int .i64 0,.int .i64 0,.bool false,.bool false,.int .u32 0,.int .i64 0,.int .i64 0,.int .i64 0]) ?_ 3 _ rfl;(with_reducible repeat (first|refine a_e ?_ _|refine a_g ?_|refine a_d ?_ _));refine a_n (cs:=#[.int .i64 ((a_a x253001_1 x27_1).f0),.int .i64 ((a_a x253001_1 x27_1).f1),.int .i64 0,.int .i64 0,.int .i64 0,.bool false,.bool false,.int .u32 0,.int .i64 0,.int .i64 0,.int .i64 0]) ?_ 2 _ rfl;(with_reducible repeat (first|refine a_e ?_ _|refine a_g ?_|refine a_d ?_ _));refine a_n (cs:=#[.int .i64 ((a_a x253001_1 x27_1).f0),.int .i64 0,.int .i64 0,.int .i64 0,.int .i64 0,.bool false,.bool false,.int .u32 0,.int .i64 0,.int .i64 0,.int .i64 0]) ?_ 1 _ rfl;(with_reducible repeat (first|refine a_e ?_ _|refine a_g ?_|refine a_d ?_ _));refine a_n (cs:=#[.int .i64 0,.int .i64 0,.int .i64 0,.int .i64 0,.int .i64 0,.bool false,.bool false,.int .u32 0,.int .i64 0,.int .i64 0,.int .i64 0]) ?_ 0 _ rfl;(with_reducible repeat (first|refine a_e ?_ _|refine a_g ?_|refine a_d ?_ _));exact b_B.out⟩,⟨by repeat (first|(with_reducible first|exact HB.out|apply a_j|apply a_h|apply a_k|refine a_i ?_ c_P.out|refine a_i ?_ j_2.out)|exact HB.out)⟩⟩
   case rest =>
    clear HC29
    try clear c2
    try clear p2
    try clear q2
    try clear hx2
    try clear hf2
    try clear c3
    try clear q3
    try clear c4
    try clear c5
    try clear c5b0
    try clear c5b1
    try clear c9
    try clear c20
    try clear c20b0
    try clear c22
    try clear c22b0
    try clear c22b1
    try clear c24
    try clear c24b0
    try clear c25
    try clear c25b0
    try clear c26
    try clear p26
    try clear q26
    try clear hx26
    try clear hf26
    try clear p27
    try clear q27
    try clear p28
    try clear q28
    try clear c31
    try clear c32
    try clear c36
    try clear q38
    try clear c39
    try clear c40
    try clear c42
    try clear e_3
    try clear e_4
    try clear g_n
    try clear g_o
    try clear f_O
    try clear f_P
    try clear i_D
    try clear i_E
    try clear o_v
    try clear o_w
    try clear m_o
    try clear o_x
    try clear o_y
    try clear o_z
    try clear o_A
    try clear o_B
    try clear o_C
    try clear o_D
    try clear o_E
    try clear k_8
    try clear k_9
    try clear m_q
    try clear o_R
    try clear o_S
    try clear o_T
    try clear o_U
    try clear o_V
    try clear o_W
    try clear o_X
    try clear o_Y
    try clear o_1
    try clear o_2
    try clear m_r
    try clear o_3
    try clear o_4
    try clear o_5
    try clear o_6
    try clear o_7
    try clear o_8
    try clear o_9
    try clear p_a
    try clear g_P
    try clear g_Q
    try clear e_5
    try clear e_6
    try clear g_p
    try clear g_q
    try clear f_Q
    try clear f_R
    try clear i_2
    try clear i_3
    try clear p_5
    try clear p_6
    try clear m_y
    try clear p_7
    try clear p_8
    try clear p_9
    try clear q_a
    try clear q_b
    try clear q_d
    try clear q_e
    try clear q_f
    try clear l_I
    try clear l_J
    try clear m_A
    try clear q_s
    try clear q_t
    try clear q_u
    try clear q_v
    try clear q_w
    try clear q_x
    try clear q_y
    try clear q_z
    try clear q_C
    try clear q_D
    try clear m_B
    try clear q_E
    try clear q_F
    try clear q_G
    try clear q_H
    try clear q_I
    try clear q_J
    try clear q_K
    try clear q_L
    try clear g_R
    try clear g_S
    try clear m_Z
    try clear m_0
    try clear l_Q
    try clear m_1
    try clear m_2
    try clear m_3
    try clear m_4
    try clear m_5
    try clear m_6
    try clear m_7
    try clear m_8
    try clear p2
    try clear p26
    try clear p27
    try clear p28
    try clear q26
    try clear q27
    try clear q28
    obtain ⟨kq,x54_28,rfl,HA,HJ28,a_C,a_W,b_B,HB⟩:=hcut
    have b_G:=(Kd.b_o a_C.out).1
    rw [b_G] at a_C
    (try simp only [b_G])
    (try simp only [b_G] at a_W)
    (try simp only [b_G] at b_B)
    cases kq with
    | zero => exact absurd HA.out (by simp [a_m.j1])
    | succ kj28 =>
     have H:=HA.out
     clear HA
     simp only [a_m.j1] at H
     by_cases c44 : x54_28 = true
     ·subst c44
      have H1 : (if 0 ≤ x27_1 then (if x27_1 < (y261.length : Int) then (if ((a_a y261 x27_1).f4) ≥ 0 then (a_m.l0 kj28 (ji21) (wrap64 (x5_1 + 1)) (wrap64 (x6_1 + 1)) (y257.length : Int) (wrap64 (x27_1 + 1)) a0_0 y261) else (a_m.l0 kj28 (ji21) (wrap64 (x5_1 + 1)) x6_1 (y257.length : Int) (wrap64 (x27_1 + 1)) a0_0 y261)) else (none)) else (none)) = some r:=by rw [if_pos rfl] at H;exact H
      clear H
      have H:=H1
      clear H1
      by_cases c45 : 0 ≤ x27_1
      rotate_left
      ·rw [if_neg c45] at H
       exact absurd H (by simp)
      rw [if_pos c45] at H
      have c45b0 : decide (0 ≤ x27_1) = true:=decide_eq_true c45
      clear c45
      by_cases c46 : x27_1 < (y261.length : Int)
      rotate_left
      ·rw [if_neg c46] at H
       exact absurd H (by simp)
      rw [if_pos c46] at H
      have c46b0 : decide (x27_1 < (y261.length : Int)) = true:=decide_eq_true c46
      clear c46
      by_cases c47 : ((a_a y261 x27_1).f4) ≥ 0
      ·rw [if_pos c47] at H
       have c47b0 : decide (0 ≤ ((a_a y261 x27_1).f4)) = true:=decide_eq_true c47
       clear c47
       have H':=a_f.mk H
       clear H
       have z_o:=b_m.out
       have z_U:=e_f.out
       have p_c : wc.cell? ⟨c_b,0,none⟩ = some (.int .i64 a0_0):=(a_b a_W.out 0).trans rfl
       have p_d : wc.cell? ⟨c_b,1,none⟩ = some (.slice (some ⟨go26,0,none⟩) y261.length co26):=(a_b a_W.out 1).trans rfl
       have q_N:=a_c a_W.out 0
       have q_O:=a_c a_W.out 1
       have p264 : 0 ≤ (x27_1 : Int):=of_decide_eq_true (by first|(with_reducible assumption)|assumption)
       have q264 : x27_1 < (y261.length : Int):=of_decide_eq_true (by first|(with_reducible assumption)|assumption)
       obtain ⟨ad264,e264,e_7,e_8,e_9,f_a,f_b,f_c,f_d,f_e,f_f,f_g,e_D⟩:=c_R (Kd.b_o a_C.out).2.2 x27_1 p264 q264
       obtain rfl : (⟨go26,0,none⟩ : Addr) = ad264:=(by injection e264)
       (first|simp only [add_plain] at e_7|simp only [b_F] at e_7|simp only [Addr.add,Nat.zero_add] at e_7|skip)
       (first|simp only [add_plain] at e_8|simp only [b_F] at e_8|simp only [Addr.add,Nat.zero_add] at e_8|skip)
       (first|simp only [add_plain] at e_9|simp only [b_F] at e_9|simp only [Addr.add,Nat.zero_add] at e_9|skip)
       (first|simp only [add_plain] at f_a|simp only [b_F] at f_a|simp only [Addr.add,Nat.zero_add] at f_a|skip)
       (first|simp only [add_plain] at f_b|simp only [b_F] at f_b|simp only [Addr.add,Nat.zero_add] at f_b|skip)
       (first|simp only [add_plain] at f_c|simp only [b_F] at f_c|simp only [Addr.add,Nat.zero_add] at f_c|skip)
       (first|simp only [add_plain] at f_d|simp only [b_F] at f_d|simp only [Addr.add,Nat.zero_add] at f_d|skip)
       (first|simp only [add_plain] at f_e|simp only [b_F] at f_e|simp only [Addr.add,Nat.zero_add] at f_e|skip)
       (first|simp only [add_plain] at f_f|simp only [b_F] at f_f|simp only [Addr.add,Nat.zero_add] at f_f|skip)
       (first|simp only [add_plain] at f_g|simp only [b_F] at f_g|simp only [Addr.add,Nat.zero_add] at f_g|skip)
       (first|simp only [add_plain] at e_D|simp only [b_F] at e_D|simp only [Addr.add,Nat.zero_add] at e_D|skip)
       replace p264:=eq_true p264
       replace q264:=eq_true q264
       go_wp2
       (try simp only [← b_G])
       subst hji21
       go_roundg kj28
       case measure => have:=HK1.out;have:=HJ28.out;omega
       case rel => exact ⟨(wrap64 (x5_1 + 1)),(wrap64 (x6_1 + 1)),(wrap64 (x27_1 + 1)),(y261),(.slice (some ⟨go26,0,none⟩) y261.length co26),(by first|rfl|(simp;done)|(simp [*];done)),(by first|rfl|(simp;done)|(simp [*];done)),(by first|rfl|(simp;done)|(simp [*];done)),H',⟨by have:=HK1.out;have:=HJ28.out;omega⟩,⟨by (try simp only [b_G]);(with_reducible repeat (first|apply Kd.e_h|apply Kd.e_i|apply Kd.e_J));exact Kd.d_Q a_C.out (fun _ hk => trivial)⟩,⟨by (try simp only [b_G]);(with_reducible repeat (first|refine a_e ?_ _|refine a_g ?_|refine a_d ?_ _));exact a_W.out⟩,⟨by repeat (first|(with_reducible first|exact HB.out|apply a_j|apply a_h|apply a_k|refine a_i ?_ c_P.out|refine a_i ?_ j_2.out)|exact HB.out)⟩⟩
      rw [if_neg c47] at H
      have c47b0 : decide (0 ≤ ((a_a y261 x27_1).f4)) = false:=decide_eq_false c47
      clear c47
      have H':=a_f.mk H
      clear H
      have x_2:=b_m.out
      have y_b:=e_f.out
      have l_a : wc.cell? ⟨c_b,0,none⟩ = some (.int .i64 a0_0):=(a_b a_W.out 0).trans rfl
      have l_b : wc.cell? ⟨c_b,1,none⟩ = some (.slice (some ⟨go26,0,none⟩) y261.length co26):=(a_b a_W.out 1).trans rfl
      have l_K:=a_c a_W.out 0
      have l_L:=a_c a_W.out 1
      have p264 : 0 ≤ (x27_1 : Int):=of_decide_eq_true (by first|(with_reducible assumption)|assumption)
      have q264 : x27_1 < (y261.length : Int):=of_decide_eq_true (by first|(with_reducible assumption)|assumption)
      obtain ⟨ad264,e264,e_7,e_8,e_9,f_a,f_b,f_c,f_d,f_e,f_f,f_g,e_D⟩:=c_R (Kd.b_o a_C.out).2.2 x27_1 p264 q264
      obtain rfl : (⟨go26,0,none⟩ : Addr) = ad264:=(by injection e264)
      (first|simp only [add_plain] at e_7|simp only [b_F] at e_7|simp only [Addr.add,Nat.zero_add] at e_7|skip)
      (first|simp only [add_plain] at e_8|simp only [b_F] at e_8|simp only [Addr.add,Nat.zero_add] at e_8|skip)
      (first|simp only [add_plain] at e_9|simp only [b_F] at e_9|simp only [Addr.add,Nat.zero_add] at e_9|skip)
      (first|simp only [add_plain] at f_a|simp only [b_F] at f_a|simp only [Addr.add,Nat.zero_add] at f_a|skip)
      (first|simp only [add_plain] at f_b|simp only [b_F] at f_b|simp only [Addr.add,Nat.zero_add] at f_b|skip)
      (first|simp only [add_plain] at f_c|simp only [b_F] at f_c|simp only [Addr.add,Nat.zero_add] at f_c|skip)
      (first|simp only [add_plain] at f_d|simp only [b_F] at f_d|simp only [Addr.add,Nat.zero_add] at f_d|skip)
      (first|simp only [add_plain] at f_e|simp only [b_F] at f_e|simp only [Addr.add,Nat.zero_add] at f_e|skip)
      (first|simp only [add_plain] at f_f|simp only [b_F] at f_f|simp only [Addr.add,Nat.zero_add] at f_f|skip)
      (first|simp only [add_plain] at f_g|simp only [b_F] at f_g|simp only [Addr.add,Nat.zero_add] at f_g|skip)
      (first|simp only [add_plain] at e_D|simp only [b_F] at e_D|simp only [Addr.add,Nat.zero_add] at e_D|skip)
      replace p264:=eq_true p264
      replace q264:=eq_true q264
      go_wp2
      (try simp only [← b_G])
      subst hji21
      go_roundg kj28
      case measure => have:=HK1.out;have:=HJ28.out;omega
      case rel => exact ⟨(wrap64 (x5_1 + 1)),(x6_1),(wrap64 (x27_1 + 1)),(y261),(.slice (some ⟨go26,0,none⟩) y261.length co26),(by first|rfl|(simp;done)|(simp [*];done)),(by first|rfl|(simp;done)|(simp [*];done)),(by first|rfl|(simp;done)|(simp [*];done)),H',⟨by have:=HK1.out;have:=HJ28.out;omega⟩,⟨by (try simp only [b_G]);(with_reducible repeat (first|apply Kd.e_h|apply Kd.e_i|apply Kd.e_J));exact Kd.d_Q a_C.out (fun _ hk => trivial)⟩,⟨by (try simp only [b_G]);(with_reducible repeat (first|refine a_e ?_ _|refine a_g ?_|refine a_d ?_ _));exact a_W.out⟩,⟨by repeat (first|(with_reducible first|exact HB.out|apply a_j|apply a_h|apply a_k|refine a_i ?_ c_P.out|refine a_i ?_ j_2.out)|exact HB.out)⟩⟩
     replace c44:=Bool.eq_false_iff.mpr c44
     subst c44
     have H1 : (if 0 ≤ x27_1 then (if x27_1 < (y261.length : Int) then (if ((a_a y261 x27_1).f4) ≥ 0 then (a_m.l0 kj28 (ji21) x5_1 (wrap64 (x6_1 + 1)) (y257.length : Int) (wrap64 (x27_1 + 1)) a0_0 y261) else (a_m.l0 kj28 (ji21) x5_1 x6_1 (y257.length : Int) (wrap64 (x27_1 + 1)) a0_0 y261)) else (none)) else (none)) = some r:=by rw [if_neg (show ¬ (false = true) by decide)] at H;exact H
     clear H
     have H:=H1
     clear H1
     by_cases c52 : 0 ≤ x27_1
     rotate_left
     ·rw [if_neg c52] at H
      exact absurd H (by simp)
     rw [if_pos c52] at H
     have c52b0 : decide (0 ≤ x27_1) = true:=decide_eq_true c52
     clear c52
     by_cases c53 : x27_1 < (y261.length : Int)
     rotate_left
     ·rw [if_neg c53] at H
      exact absurd H (by simp)
     rw [if_pos c53] at H
     have c53b0 : decide (x27_1 < (y261.length : Int)) = true:=decide_eq_true c53
     clear c53
     by_cases c54 : ((a_a y261 x27_1).f4) ≥ 0
     ·rw [if_pos c54] at H
      have c54b0 : decide (0 ≤ ((a_a y261 x27_1).f4)) = true:=decide_eq_true c54
      clear c54
      have H':=a_f.mk H
      clear H
      have z_r:=b_m.out
      have z_X:=e_f.out
      have u_J : wc.cell? ⟨c_b,0,none⟩ = some (.int .i64 a0_0):=(a_b a_W.out 0).trans rfl
      have u_K : wc.cell? ⟨c_b,1,none⟩ = some (.slice (some ⟨go26,0,none⟩) y261.length co26):=(a_b a_W.out 1).trans rfl
      have x_e:=a_c a_W.out 0
      have x_f:=a_c a_W.out 1
      have p265 : 0 ≤ (x27_1 : Int):=of_decide_eq_true (by first|(with_reducible assumption)|assumption)
      have q265 : x27_1 < (y261.length : Int):=of_decide_eq_true (by first|(with_reducible assumption)|assumption)
      obtain ⟨ad265,e265,f_h,f_i,f_j,f_k,f_l,f_m,f_n,f_o,f_p,f_q,e_E⟩:=c_R (Kd.b_o a_C.out).2.2 x27_1 p265 q265
      obtain rfl : (⟨go26,0,none⟩ : Addr) = ad265:=(by injection e265)
      (first|simp only [add_plain] at f_h|simp only [b_F] at f_h|simp only [Addr.add,Nat.zero_add] at f_h|skip)
      (first|simp only [add_plain] at f_i|simp only [b_F] at f_i|simp only [Addr.add,Nat.zero_add] at f_i|skip)
      (first|simp only [add_plain] at f_j|simp only [b_F] at f_j|simp only [Addr.add,Nat.zero_add] at f_j|skip)
      (first|simp only [add_plain] at f_k|simp only [b_F] at f_k|simp only [Addr.add,Nat.zero_add] at f_k|skip)
      (first|simp only [add_plain] at f_l|simp only [b_F] at f_l|simp only [Addr.add,Nat.zero_add] at f_l|skip)
      (first|simp only [add_plain] at f_m|simp only [b_F] at f_m|simp only [Addr.add,Nat.zero_add] at f_m|skip)
      (first|simp only [add_plain] at f_n|simp only [b_F] at f_n|simp only [Addr.add,Nat.zero_add] at f_n|skip)
      (first|simp only [add_plain] at f_o|simp only [b_F] at f_o|simp only [Addr.add,Nat.zero_add] at f_o|skip)
      (first|simp only [add_plain] at f_p|simp only [b_F] at f_p|simp only [Addr.add,Nat.zero_add] at f_p|skip)
      (first|simp only [add_plain] at f_q|simp only [b_F] at f_q|simp only [Addr.add,Nat.zero_add] at f_q|skip)
      (first|simp only [add_plain] at e_E|simp only [b_F] at e_E|simp only [Addr.add,Nat.zero_add] at e_E|skip)
      replace p265:=eq_true p265
      replace q265:=eq_true q265
      go_wp2
      (try simp only [← b_G])
      subst hji21
      go_roundg kj28
      case measure => have:=HK1.out;have:=HJ28.out;omega
      case rel => exact ⟨(x5_1),(wrap64 (x6_1 + 1)),(wrap64 (x27_1 + 1)),(y261),(.slice (some ⟨go26,0,none⟩) y261.length co26),(by first|rfl|(simp;done)|(simp [*];done)),(by first|rfl|(simp;done)|(simp [*];done)),(by first|rfl|(simp;done)|(simp [*];done)),H',⟨by have:=HK1.out;have:=HJ28.out;omega⟩,⟨by (try simp only [b_G]);(with_reducible repeat (first|apply Kd.e_h|apply Kd.e_i|apply Kd.e_J));exact Kd.d_Q a_C.out (fun _ hk => trivial)⟩,⟨by (try simp only [b_G]);(with_reducible repeat (first|refine a_e ?_ _|refine a_g ?_|refine a_d ?_ _));exact a_W.out⟩,⟨by repeat (first|(with_reducible first|exact HB.out|apply a_j|apply a_h|apply a_k|refine a_i ?_ c_P.out|refine a_i ?_ j_2.out)|exact HB.out)⟩⟩
     rw [if_neg c54] at H
     have c54b0 : decide (0 ≤ ((a_a y261 x27_1).f4)) = false:=decide_eq_false c54
     clear c54
     have H':=a_f.mk H
     clear H
     have x_3:=b_m.out
     have y_c:=e_f.out
     have p_e : wc.cell? ⟨c_b,0,none⟩ = some (.int .i64 a0_0):=(a_b a_W.out 0).trans rfl
     have u_L : wc.cell? ⟨c_b,1,none⟩ = some (.slice (some ⟨go26,0,none⟩) y261.length co26):=(a_b a_W.out 1).trans rfl
     have q_P:=a_c a_W.out 0
     have x_g:=a_c a_W.out 1
     have p265 : 0 ≤ (x27_1 : Int):=of_decide_eq_true (by first|(with_reducible assumption)|assumption)
     have q265 : x27_1 < (y261.length : Int):=of_decide_eq_true (by first|(with_reducible assumption)|assumption)
     obtain ⟨ad265,e265,f_h,f_i,f_j,f_k,f_l,f_m,f_n,f_o,f_p,f_q,e_E⟩:=c_R (Kd.b_o a_C.out).2.2 x27_1 p265 q265
     obtain rfl : (⟨go26,0,none⟩ : Addr) = ad265:=(by injection e265)
     (first|simp only [add_plain] at f_h|simp only [b_F] at f_h|simp only [Addr.add,Nat.zero_add] at f_h|skip)
     (first|simp only [add_plain] at f_i|simp only [b_F] at f_i|simp only [Addr.add,Nat.zero_add] at f_i|skip)
     (first|simp only [add_plain] at f_j|simp only [b_F] at f_j|simp only [Addr.add,Nat.zero_add] at f_j|skip)
     (first|simp only [add_plain] at f_k|simp only [b_F] at f_k|simp only [Addr.add,Nat.zero_add] at f_k|skip)
     (first|simp only [add_plain] at f_l|simp only [b_F] at f_l|simp only [Addr.add,Nat.zero_add] at f_l|skip)
     (first|simp only [add_plain] at f_m|simp only [b_F] at f_m|simp only [Addr.add,Nat.zero_add] at f_m|skip)
     (first|simp only [add_plain] at f_n|simp only [b_F] at f_n|simp only [Addr.add,Nat.zero_add] at f_n|skip)
     (first|simp only [add_plain] at f_o|simp only [b_F] at f_o|simp only [Addr.add,Nat.zero_add] at f_o|skip)
     (first|simp only [add_plain] at f_p|simp only [b_F] at f_p|simp only [Addr.add,Nat.zero_add] at f_p|skip)
     (first|simp only [add_plain] at f_q|simp only [b_F] at f_q|simp only [Addr.add,Nat.zero_add] at f_q|skip)
     (first|simp only [add_plain] at e_E|simp only [b_F] at e_E|simp only [Addr.add,Nat.zero_add] at e_E|skip)
     replace p265:=eq_true p265
     replace q265:=eq_true q265
     go_wp2
     (try simp only [← b_G])
     subst hji21
     go_roundg kj28
     case measure => have:=HK1.out;have:=HJ28.out;omega
     case rel => exact ⟨(x5_1),(x6_1),(wrap64 (x27_1 + 1)),(y261),(.slice (some ⟨go26,0,none⟩) y261.length co26),(by first|rfl|(simp;done)|(simp [*];done)),(by first|rfl|(simp;done)|(simp [*];done)),(by first|rfl|(simp;done)|(simp [*];done)),H',⟨by have:=HK1.out;have:=HJ28.out;omega⟩,⟨by (try simp only [b_G]);(with_reducible repeat (first|apply Kd.e_h|apply Kd.e_i|apply Kd.e_J));exact Kd.d_Q a_C.out (fun _ hk => trivial)⟩,⟨by (try simp only [b_G]);(with_reducible repeat (first|refine a_e ?_ _|refine a_g ?_|refine a_d ?_ _));exact a_W.out⟩,⟨by repeat (first|(with_reducible first|exact HB.out|apply a_j|apply a_h|apply a_k|refine a_i ?_ c_P.out|refine a_i ?_ j_2.out)|exact HB.out)⟩⟩
end Go.Proofs.YtgglkfilkagblaaDoor.Q
end
section
namespace Go.Proofs.YtgglkfilkagblaaDoor.Pure
open Go.RowKit Go.Proofs.YtgglkfilkagblaaDoor.Q Go.Proofs.YtgglkfilkagblaaDoorW.PrintWords Go.Proofs.YtgglkfilkagblaaDoorW.PrintLast Go.Proofs.YtgglkfilkagblaaDoorW.PrintMore
set_option linter.unusedVariables false
set_option linter.unusedSimpArgs false
theorem f_7 (n : Nat) (h : n < 9223372036854775807) : wrap64 ((n : Int) + 1) = ((n + 1 : Nat) : Int):=by unfold wrap64;omega
theorem m_P (n : Nat) (h : n < 9223372036854775807) : wrap64 (((n + 1 : Nat) : Int) - 1) = (n : Int):=by unfold wrap64;omega
def win (a l h : Int) : Bool:=decide (l ≤ a) && decide (a ≤ h)
theorem r_X (a l h : Int) : a_y.f a l h = some (win a l h):=by
 unfold a_y.f win
 by_cases c : a ≥ l
 ·rw [if_pos c,decide_eq_true (show l ≤ a from c)];rfl
 rw [if_neg c,decide_eq_false (show ¬ l ≤ a from c)];rfl
def mayB (a : Int) : Bool:=decide (Go.bits .andNot .u32 a 255 = 0)
theorem y_e (a : Int) : b_3.f a = some (if mayB a = true then 0 else 140):=by
 unfold b_3.f mayB
 by_cases c : Go.bits .andNot .u32 a 255 = 0
 ·rw [if_pos c];simp [c]
 rw [if_neg c];simp [c]
def k_f (x : S33) : Bool:=win x.f0 1 16 && win x.f1 1 8 && win x.f2 0 8 && win x.f3 0 3 && win x.f4 (-1) 7 && mayB x.f7 && win x.f8 1 65535 && win x.f9 1 8 && win x.f10 0 800
theorem r_S (x : S33) : Ev (fun k => a_D.f k x.f0 x.f1 x.f2 x.f3 x.f4 x.f5 x.f6 x.f7 x.f8 x.f9 x.f10) (k_f x):=by
 have key : ∀ b : Bool,Ev (fun k => a_D.j0 k b x.f0 x.f1 x.f2 x.f3 x.f4 x.f5 x.f6 x.f7 x.f8 x.f9 x.f10) (b && win x.f4 (-1) 7 && mayB x.f7 && win x.f8 1 65535 && win x.f9 1 8 && win x.f10 0 800):=fun b => by
  refine Ev.step (f:=fun _ => some (b && win x.f4 (-1) 7 && mayB x.f7 && win x.f8 1 65535 && win x.f9 1 8 && win x.f10 0 800)) (fun k => ?_) (Ev.now _)
  rw [a_D.j0]
  simp only [r_X,y_e,Option.bind_some]
  cases b <;> cases win x.f4 (-1) 7 <;> cases mayB x.f7 <;> cases win x.f8 1 65535 <;> cases win x.f9 1 8 <;> simp
 unfold a_D.f
 simp only [r_X,Option.bind_some]
 unfold k_f
 cases h0 : win x.f0 1 16 <;> cases h1 : win x.f1 1 8 <;> cases h2 : win x.f2 0 8 <;> cases h3 : win x.f3 0 3 <;> simp only [if_true,if_false,Bool.false_eq_true] <;> first|exact key true|exact key false
def rOK (l : List S33) (i : Nat) : Bool:=k_f (a_a l (i : Int)) && (i == 0 || decide ((a_a l ((i - 1 : Nat) : Int)).f0 < (a_a l (i : Int)).f0)) && decide (((l.countP (fun s => s.f1 == (a_a l (i : Int)).f1) : Nat) : Int) = (a_a l (i : Int)).f9) && decide (((l.countP (fun s => g_j s (a_a l (i : Int)).f1 (a_a l (i : Int)).f8 (a_a l (i : Int)).f9 (a_a l (i : Int)).f10) : Nat) : Int) = (a_a l (i : Int)).f9)
def h_w (l : List S33) : Nat → Nat → Bool
 | 0,_ => true
 | n + 1,i => rOK l i && h_w l n (i + 1)
def tmB (a : Int) : Bool:=decide (0 ≤ a) && decide (a ≤ 1125899906842624)
theorem m_L (l : List S33) (hl : l.length ≤ 1000000) (a : Int) : ∀ n i,i + n = l.length → Ev (fun k => a_t.l0 k l (l.length : Int) (i : Int) a l) (h_w l n i && tmB a):=by
 intro n
 induction n with
 | zero =>
  intro i hi
  refine Ev.step (f:=fun _ => some (h_w l 0 i && tmB a)) (fun k => ?_) (Ev.now _)
  rw [a_t.l0,if_neg (by omega)]
  unfold h_w tmB
  by_cases c : a ≥ 0
  ·rw [if_pos c,decide_eq_true (show 0 ≤ a from c)];rfl
  rw [if_neg c,decide_eq_false (show ¬ 0 ≤ a from c)];rfl
 | succ n ih =>
  intro i hi
  have nxt:=ih (i + 1) (by omega)
  have h1 : ((i : Nat) : Int) < (l.length : Int):=by omega
  have h0 : (0 : Int) ≤ ((i : Nat) : Int):=by omega
  have hw:=f_7 i (by omega)
  have cs : ∀ (x : S33),a_X.f l x.f0 x.f1 x.f2 x.f3 x.f4 x.f5 x.f6 x.f7 x.f8 x.f9 x.f10 = some ((l.countP (fun s => s.f1 == x.f1) : Nat) : Int):=fun x => by unfold a_X.f;rw [if_pos (by omega)]
  have ca : ∀ (x : S33),a_V.f l x.f0 x.f1 x.f2 x.f3 x.f4 x.f5 x.f6 x.f7 x.f8 x.f9 x.f10 x.f0 x.f1 x.f2 x.f3 x.f4 x.f5 x.f6 x.f7 x.f8 x.f9 x.f10 = some ((l.countP (fun s => g_j s x.f1 x.f8 x.f9 x.f10) : Nat) : Int):=fun x => by unfold a_V.f;rw [if_pos (by omega)]
  refine Ev.step (fun k => by rw [a_t.l0,if_pos h1,if_pos h0,if_pos h1]) ?_
  refine Ev.bind (r_S _) ?_
  simp only [cs,ca,Option.bind_some,hw]
  unfold h_w rOK
  cases hs : k_f (a_a l (i : Int))
  ·exact Ev.now _
  simp only [if_true,Bool.true_and]
  have tail : Ev (fun k => if ((l.countP (fun s => s.f1 == (a_a l (i : Int)).f1) : Nat) : Int) = (a_a l (i : Int)).f9 then (if ((l.countP (fun s => g_j s (a_a l (i : Int)).f1 (a_a l (i : Int)).f8 (a_a l (i : Int)).f9 (a_a l (i : Int)).f10) : Nat) : Int) = (a_a l (i : Int)).f9 then a_t.l0 k l (l.length : Int) ((i + 1 : Nat) : Int) a l else some false) else some false)
   (decide (((l.countP (fun s => s.f1 == (a_a l (i : Int)).f1) : Nat) : Int) = (a_a l (i : Int)).f9) && decide (((l.countP (fun s => g_j s (a_a l (i : Int)).f1 (a_a l (i : Int)).f8 (a_a l (i : Int)).f9 (a_a l (i : Int)).f10) : Nat) : Int) = (a_a l (i : Int)).f9) && (h_w l n (i + 1) && tmB a)):=by
   by_cases c1 : ((l.countP (fun s => s.f1 == (a_a l (i : Int)).f1) : Nat) : Int) = (a_a l (i : Int)).f9
   ·simp only [if_pos c1,decide_eq_true c1,Bool.true_and]
    by_cases c2 : ((l.countP (fun s => g_j s (a_a l (i : Int)).f1 (a_a l (i : Int)).f8 (a_a l (i : Int)).f9 (a_a l (i : Int)).f10) : Nat) : Int) = (a_a l (i : Int)).f9
    ·simp only [if_pos c2,decide_eq_true c2,Bool.true_and];exact nxt
    ·simp only [if_neg c2,decide_eq_false c2,Bool.false_and];exact Ev.now _
   ·simp only [if_neg c1,decide_eq_false c1,Bool.false_and];exact Ev.now _
  cases i with
  | zero =>
   simp only [show ¬ ((0 : Nat) : Int) > 0 by omega,if_false,BEq.rfl,Bool.true_or,Bool.true_and,Bool.and_assoc] at tail ⊢
   exact tail
  | succ j =>
   have hp:=m_P j (by omega)
   simp only [show ((j + 1 : Nat) : Int) > 0 by omega,if_true,hp,show (0 : Int) ≤ (j : Int) by omega,show (j : Int) < (l.length : Int) by omega,show (j + 1 == 0) = false from rfl,Bool.false_or,Nat.add_sub_cancel]
   by_cases c : (a_a l (j : Int)).f0 < (a_a l ((j + 1 : Nat) : Int)).f0
   ·have c' : ¬ (a_a l (j : Int)).f0 ≥ (a_a l ((j + 1 : Nat) : Int)).f0:=by omega
    simp only [if_neg c',decide_eq_true c,Bool.true_and,Bool.and_assoc] at tail ⊢
    exact tail
   have c' : (a_a l (j : Int)).f0 ≥ (a_a l ((j + 1 : Nat) : Int)).f0:=by omega
   simp only [if_pos c',decide_eq_false c,Bool.false_and]
   exact Ev.now _
def e_u (a : Int) (l : List S33) : Bool:=h_w l l.length 0 && tmB a
theorem j_z (a : Int) (l : List S33) (hl : l.length ≤ 1000000) : Ev (fun k => a_t.f k a l) (e_u a l):=m_L l hl a l.length 0 (by omega)
theorem wraps_u32 (n : Int) (h₀ : 0 ≤ n) (h₁ : n < 2 ^ 32) : IntKind.u32.wrap n = n:=by rw [IntKind.wrap_u32];omega
theorem r_M {a : Int} (h0 : 0 ≤ a) (h1 : a < 4294967296) : mayB a = decide (a < 256):=by
 obtain ⟨n,rfl⟩:=Int.eq_ofNat_of_zero_le h0
 have hn : n < 2 ^ 32:=by omega
 unfold mayB
 have e : Go.bits .andNot .u32 (n : Int) 255 = (((BitVec.ofNat 32 n &&& ~~~BitVec.ofNat 32 255).toNat : Nat) : Int):=by
  have h : Go.bits .andNot .u32 (n : Int) 255 = IntKind.u32.wrap (((BitVec.ofNat 32 n &&& ~~~BitVec.ofNat 32 255).toNat : Nat) : Int):=by
   simp only [Go.bits,BitVec.ofInt_natCast]
   rfl
  rw [h]
  exact wraps_u32 _ (Int.natCast_nonneg _) (by have:=BitVec.isLt (BitVec.ofNat 32 n &&& ~~~BitVec.ofNat 32 255);exact_mod_cast this)
 have tb : ∀ i,(BitVec.ofNat 32 n &&& ~~~BitVec.ofNat 32 255).toNat.testBit i = (n.testBit i && !(255 : Nat).testBit i):=fun i => by
  rw [BitVec.testBit_toNat,BitVec.getLsbD_and,BitVec.getLsbD_not,BitVec.getLsbD_ofNat,BitVec.getLsbD_ofNat]
  by_cases h : i < 32
  ·simp [h]
  have : n.testBit i = false:=Nat.testBit_lt_two_pow (Nat.lt_of_lt_of_le hn (Nat.pow_le_pow_right (by decide) (by omega)))
  simp [h,this]
 rw [e]
 by_cases c : n < 256
 rotate_left
 ·have hz : ¬ (BitVec.ofNat 32 n &&& ~~~BitVec.ofNat 32 255).toNat = 0:=fun h0 => c (by
   have : n < 2 ^ 8:=Nat.lt_pow_two_of_testBit n fun i hi => by
    have t:=tb i
    rw [h0,Nat.zero_testBit] at t
    have : (255 : Nat).testBit i = false:=Nat.testBit_lt_two_pow (Nat.lt_of_lt_of_le (by decide : 255 < 2 ^ 8) (Nat.pow_le_pow_right (by decide) hi))
    rw [this] at t
    simpa using t.symm
   simpa using this)
  rw [decide_eq_false (by omega),decide_eq_false (by omega)]
 have hz : (BitVec.ofNat 32 n &&& ~~~BitVec.ofNat 32 255).toNat = 0:=by
  apply Nat.eq_of_testBit_eq
  intro i
  rw [tb,Nat.zero_testBit]
  by_cases h : i < 8
  ·have : (255 : Nat).testBit i = true:=by
    have : i = 0 ∨ i = 1 ∨ i = 2 ∨ i = 3 ∨ i = 4 ∨ i = 5 ∨ i = 6 ∨ i = 7:=by omega
    rcases this with rfl|rfl|rfl|rfl|rfl|rfl|rfl|rfl <;> decide
   rw [this];simp
  have : n.testBit i = false:=Nat.testBit_lt_two_pow (Nat.lt_of_lt_of_le c (Nat.pow_le_pow_right (n:=2) (i:=8) (by decide) (by omega)))
  rw [this];rfl
 rw [hz,decide_eq_true (show ((0 : Nat) : Int) = 0 from rfl),decide_eq_true (by omega)]
def May (x : S33) : Prop:=0 ≤ x.f7 ∧ x.f7 < 4294967296
end Go.Proofs.YtgglkfilkagblaaDoor.Pure
end
section
namespace Go.Proofs.YtgglkfilkagblaaDoor.Pure
open Go.RowKit Go.Proofs.YtgglkfilkagblaaDoor.Q Go.Proofs.YtgglkfilkagblaaDoorW.PrintWords Go.Proofs.YtgglkfilkagblaaDoorW.PrintLast Go.Proofs.YtgglkfilkagblaaDoorW.PrintMore
set_option linter.unusedVariables false
set_option linter.unusedSimpArgs false
theorem r_n {a b : Nat} (ha : a < 2 ^ 32) (hb : b < 2 ^ 32) : Go.bits .and .u32 (a : Int) (b : Int) = ((a &&& b : Nat) : Int):=(bits_nat .u32 32 (by decide) wraps_u32 a b ha hb).1
theorem or_n {a b : Nat} (ha : a < 2 ^ 32) (hb : b < 2 ^ 32) : Go.bits .or .u32 (a : Int) (b : Int) = ((a ||| b : Nat) : Int):=(bits_nat .u32 32 (by decide) wraps_u32 a b ha hb).2
def nd (a b : Nat) : Nat:=(BitVec.ofNat 32 a &&& ~~~BitVec.ofNat 32 b).toNat
theorem y_f (a b : Nat) : nd a b < 2 ^ 32:=BitVec.isLt _
theorem nd_n (a b : Nat) : Go.bits .andNot .u32 (a : Int) (b : Int) = (nd a b : Int):=by
 have h : Go.bits .andNot .u32 (a : Int) (b : Int) = IntKind.u32.wrap ((nd a b : Nat) : Int):=by
  simp only [Go.bits,BitVec.ofInt_natCast,nd]
  rfl
 rw [h]
 exact wraps_u32 _ (Int.natCast_nonneg _) (by have:=y_f a b;exact_mod_cast this)
theorem r_V {a b : Nat} (ha : a < 2 ^ 32) (i : Nat) : (nd a b).testBit i = (a.testBit i && !b.testBit i):=by
 unfold nd
 rw [BitVec.testBit_toNat,BitVec.getLsbD_and,BitVec.getLsbD_not,BitVec.getLsbD_ofNat,BitVec.getLsbD_ofNat]
 by_cases h : i < 32
 ·simp [h]
 have : a.testBit i = false:=Nat.testBit_lt_two_pow (Nat.lt_of_lt_of_le ha (Nat.pow_le_pow_right (by decide) (by omega)))
 simp [h,this]
theorem j_G {a b : Nat} : a &&& b = 0 ↔ ∀ i,a.testBit i = true → b.testBit i = false:=by
 constructor
 ·intro h i hi
  have:=congrArg (Nat.testBit · i) h
  simp [Nat.testBit_and,hi] at this
  exact this
 intro h
 apply Nat.eq_of_testBit_eq
 intro i
 rw [Nat.testBit_and,Nat.zero_testBit]
 cases ha : a.testBit i
 ·rfl
 simp [h i ha]
theorem q_0 {a i : Nat} (ha : a < 256) (hi : 8 ≤ i) : a.testBit i = false:=Nat.testBit_lt_two_pow (Nat.lt_of_lt_of_le (show a < 2 ^ 8 by omega) (Nat.pow_le_pow_right (by decide) hi))
theorem m_G {a : Nat} (h : ∀ i,8 ≤ i → a.testBit i = false) : a < 256:=by
 apply Nat.lt_of_not_le
 intro hc
 obtain ⟨i,hi,hi'⟩:=Nat.exists_ge_and_testBit_of_ge_two_pow (show 2 ^ 8 ≤ a by omega)
 rw [h i hi] at hi'
 cases hi'
def cnt (S : List Nat) (c : Nat) : Nat:=S.countP (·.testBit c)
structure Good (S : List Nat) : Prop where
 len1 : 1 ≤ S.length
 len4 : S.length ≤ 4
 each : ∀ s ∈ S,s ≠ 0 ∧ s < 256
 one : ∃ m,m ≤ 8 ∧ ∀ c,cnt S c = if c < m then 1 else 0
open Classical in
noncomputable def gd (S : List Nat) : Bool:=decide (Good S)
def pc (s : Nat) : Nat:=(s.testBit 0).toNat + (s.testBit 1).toNat + (s.testBit 2).toNat + (s.testBit 3).toNat + (s.testBit 4).toNat + (s.testBit 5).toNat + (s.testBit 6).toNat + (s.testBit 7).toNat
def hb (s : Nat) (a : Int) : Bool:=decide (0 ≤ a ∧ a < 8) && s.testBit a.toNat
theorem r_s (s : Nat) (c : Nat) (h : c < 8) : hb s (c : Int) = s.testBit c:=by unfold hb;rw [decide_eq_true (by omega)];simp
theorem r_t (s : Nat) (a : Int) (h : a < 0 ∨ 8 ≤ a) : hb s a = false:=by unfold hb;rw [decide_eq_false (by omega)];rfl
theorem eight {a : Int} (h0 : 0 ≤ a) (h8 : a < 8) : ∃ c : Nat,c < 8 ∧ a = (c : Int):=⟨a.toNat,by omega,by omega⟩
theorem r_p (c : Nat) (h : c < 8) : d_D.f (c : Int) = some ((2 ^ c : Nat) : Int):=by
 have : c = 0 ∨ c = 1 ∨ c = 2 ∨ c = 3 ∨ c = 4 ∨ c = 5 ∨ c = 6 ∨ c = 7:=by omega
 rcases this with rfl|rfl|rfl|rfl|rfl|rfl|rfl|rfl <;> decide +kernel
theorem n_F (a : Int) (h : a < 0 ∨ 8 ≤ a) : d_D.f a = some 0:=by
 unfold d_D.f
 by_cases h0 : a < 0
 ·rw [if_pos h0]
 rw [if_neg h0,if_pos (by omega)]
theorem n_E (s c : Nat) : s &&& 2 ^ c = 0 ↔ s.testBit c = false:=by
 constructor
 ·intro h
  cases hx : s.testBit c
  ·rfl
  have:=j_G.1 h c hx
  simp [Nat.testBit_two_pow] at this
 intro h
 refine j_G.2 fun i hi => ?_
 rw [Nat.testBit_two_pow]
 apply decide_eq_false
 rintro rfl
 rw [h] at hi
 cases hi
theorem r_R (c : Nat) (h : c < 8) : 2 ^ c < 2 ^ 32:=Nat.pow_lt_pow_right (by decide) (by omega)
theorem r_c (s : Nat) (hs : s < 2 ^ 32) (a : Int) : b_q.f (s : Int) a = some (hb s a):=by
 unfold b_q.f
 by_cases h : 0 ≤ a ∧ a < 8
 rotate_left
 ·rw [n_F a (by omega),r_t s a (by omega)]
  simp only [Option.bind_some]
  have:=r_n (a:=s) (b:=0) hs (by decide)
  simp at this
  rw [this]
  rfl
 obtain ⟨c,hc,rfl⟩:=eight h.1 h.2
 rw [r_p c hc]
 simp only [Option.bind_some]
 rw [r_n hs (r_R c hc),r_s s c hc]
 have:=n_E s c
 cases hx : s.testBit c
 ·rw [this.2 hx];rfl
 have h2 : s &&& 2 ^ c ≠ 0:=fun h => by rw [this.1 h] at hx;cases hx
 have h3 : (((s &&& 2 ^ c : Nat) : Int) != 0) = true:=by simp;omega
 rw [h3]
end Go.Proofs.YtgglkfilkagblaaDoor.Pure
end
section
namespace Go.Proofs.YtgglkfilkagblaaDoor.Pure
open Go.RowKit Go.Proofs.YtgglkfilkagblaaDoor.Q Go.Proofs.YtgglkfilkagblaaDoorW.PrintWords Go.Proofs.YtgglkfilkagblaaDoorW.PrintLast Go.Proofs.YtgglkfilkagblaaDoorW.PrintMore
set_option linter.unusedVariables false
set_option linter.unusedSimpArgs false
theorem rdm {l pre suf : List S33} {x : S33} (h : l = pre ++ x :: suf) : a_a l (pre.length : Int) = x:=by subst h;simp [a_a]
theorem m_J {l pre suf : List S33} {x : S33} (h : l = pre ++ x :: suf) : pre.length < l.length:=by subst h;simp
theorem h_v {l pre suf : List S33} {x : S33} (h : l = pre ++ x :: suf) : l = (pre ++ [x]) ++ suf:=by simp [h]
theorem g_v {pre : List S33} {x : S33} (h : pre.length < 1000000) : wrap64 ((pre.length : Int) + 1) = ((pre ++ [x]).length : Int):=by rw [f_7 pre.length (by omega)];simp
theorem l_Y {l pre : List S33} (h : l = pre ++ []) : pre.length = l.length:=by subst h;simp
structure Fine (x : S33) : Prop where
 g0 : 0 ≤ x.f2
 g8 : x.f2 ≤ 8
 c0 : -1 ≤ x.f4
 c7 : x.f4 ≤ 7
 m0 : 0 ≤ x.f7
 m8 : x.f7 < 256
theorem j_V {l : List S33} : ∀ n i,h_w l n i = true → ∀ j,i ≤ j → j < i + n → k_f (a_a l (j : Int)) = true
 | 0,i,_,j,h1,h2 => by omega
 | n + 1,i,h,j,h1,h2 => by
  unfold h_w at h
  simp only [Bool.and_eq_true] at h
  by_cases e : j = i
  ·subst e
   have:=h.1
   unfold rOK at this
   simp only [Bool.and_eq_true] at this
   exact this.1.1.1
  ·exact j_V n (i + 1) h.2 j (by omega) (by omega)
theorem n_H {a : Int} {l : List S33} (h : e_u a l = true) (hm : ∀ x ∈ l,May x) : ∀ x ∈ l,Fine x:=by
 intro x hx
 obtain ⟨j,hj,rfl⟩:=List.getElem_of_mem hx
 have hmx:=hm _ hx
 unfold e_u at h
 simp only [Bool.and_eq_true] at h
 have:=j_V _ _ h.1 j (by omega) (by omega)
 rw [show a_a l (j : Int) = l[j] by unfold a_a;simp [hj]] at this
 unfold k_f win at this
 simp only [Bool.and_eq_true,decide_eq_true_eq] at this
 obtain ⟨⟨⟨⟨⟨⟨⟨⟨h0,h1⟩,h2⟩,h3⟩,h4⟩,h7⟩,h8⟩,h9⟩,h10⟩:=this
 rw [r_M hmx.1 hmx.2,decide_eq_true_eq] at h7
 exact ⟨h2.1,h2.2,h4.1,h4.2,hmx.1,h7⟩
def adm : Nat → List S33 → Bool
 | _,[] => true
 | t,x :: r => if x.f4 = -1 then adm t r else x.f5 && !x.f6 && x.f7.toNat.testBit x.f4.toNat && !t.testBit x.f4.toNat && adm (t ||| 2 ^ x.f4.toNat) r
theorem shl1 (c : Nat) (h : c < 8) : shl .u32 1 (c : Int) = ((2 ^ c : Nat) : Int):=by
 have : c = 0 ∨ c = 1 ∨ c = 2 ∨ c = 3 ∨ c = 4 ∨ c = 5 ∨ c = 6 ∨ c = 7:=by omega
 rcases this with rfl|rfl|rfl|rfl|rfl|rfl|rfl|rfl <;> rfl
theorem m_X (l : List S33) (hl : l.length ≤ 1000) (hf : ∀ x ∈ l,Fine x) : ∀ (suf pre : List S33) (t : Nat),l = pre ++ suf → t < 256 →
 Ev (fun k => a_z.l0 k (t : Int) l (l.length : Int) (pre.length : Int)) (adm t suf)
 | [],pre,t,h,ht => by
  have:=l_Y h
  refine Ev.step (f:=fun _ => some true) (fun k => ?_) (Ev.now _)
  rw [a_z.l0,if_neg (by omega)]
 | x :: suf,pre,t,h,ht => by
  have hlt:=m_J h
  have hx:=hf x (by subst h;simp)
  obtain ⟨h1,h2,h3,h4,h5,h6⟩:=hx
  have ih:=fun t ht => m_X l hl hf suf (pre ++ [x]) t (h_v h) ht
  unfold adm
  by_cases c : x.f4 = -1
  ·rw [if_pos c]
   refine Ev.step (f:=fun k => a_z.l0 k (t : Int) l (l.length : Int) ((pre ++ [x]).length : Int)) (fun k => ?_) (ih t ht)
   rw [a_z.l0,if_pos (by omega),if_pos (by omega),if_pos (by omega),rdm h,if_pos c,g_v (x:=x) (by omega)]
  ·rw [if_neg c]
   obtain ⟨q,hq⟩ : ∃ q : Nat,x.f4 = (q : Int):=⟨x.f4.toNat,by omega⟩
   obtain ⟨m,hm⟩ : ∃ m : Nat,x.f7 = (m : Int):=⟨x.f7.toNat,by omega⟩
   have hq8 : q < 8:=by omega
   have hm8 : m < 2 ^ 32:=by omega
   have hor : Go.bits .or .u32 (t : Int) (shl .u32 1 (q : Int)) = ((t ||| 2 ^ q : Nat) : Int):=by
    rw [shl1 q hq8]
    exact or_n (by omega) (Nat.pow_lt_pow_right (by decide) (by omega))
   have hpow : t ||| 2 ^ q < 256:=Nat.or_lt_two_pow (n:=8) ht (Nat.pow_lt_pow_right (by decide) hq8)
   refine Ev.step (f:=fun k => if (x.f5 = true) then (if x.f6 = true then (some false) else ((b_q.f x.f7 x.f4).bind fun t126 => (if t126 = true then ((b_q.f (t : Int) x.f4).bind fun t127 => (if t127 = true then (some false) else (if 0 ≤ x.f4 then (a_z.l0 k (Go.bits .or .u32 (t : Int) (shl .u32 1 x.f4)) l (l.length : Int) ((pre ++ [x]).length : Int)) else (none)))) else (some false)))) else (some false)) (fun k => ?_) ?_
   ·rw [a_z.l0,if_pos (by omega),if_pos (by omega),if_pos (by omega),rdm h,if_neg c,g_v (x:=x) (by omega)]
   ·simp only [hq,hm,Int.toNat_natCast]
    simp only [r_c m hm8,r_c t (show t < 2 ^ 32 by omega),Option.bind_some,r_s _ q hq8,hor]
    cases x.f5
    ·exact Ev.now _
    cases x.f6
    ·cases m.testBit q
     ·exact Ev.now _
     cases ht2 : t.testBit q
     ·simpa using ih _ hpow
     ·exact Ev.now _
    ·exact Ev.now _
theorem l_7 (a : Int) (l : List S33) (hl : l.length ≤ 1000) (hf : e_u a l = true → ∀ x ∈ l,Fine x) : Ev (fun k => a_z.f k a l) (e_u a l && adm 0 l):=by
 unfold a_z.f
 refine Ev.bind (j_z a l (by omega)) ?_
 cases h : e_u a l
 ·exact Ev.now _
 simpa using m_X l hl (hf h) l [] 0 rfl (by decide)
def wok (l : List S33) (g : Int) : Bool := !(l.any (fun s => areB s g) && l.any (fun s => d_4 s g && !areB s g))
theorem k_x (l : List S33) (g : Int) : (l.countP (fun s => areB s g) < l.countP (fun s => d_4 s g)) ↔ l.any (fun s => d_4 s g && !areB s g) = true:=by
 have h1 : l.countP (fun s => d_4 s g) = l.countP (fun s => areB s g) + l.countP (fun s => d_4 s g && !areB s g):=by
  induction l with
  | nil => rfl
  | cons x l ih =>
   simp only [List.countP_cons,ih]
   unfold areB
   cases d_4 x g <;> cases decide (-1 < x.f4) <;> simp <;> omega
 rw [h1,List.any_eq_true]
 constructor
 ·intro h
  have : 0 < l.countP (fun s => d_4 s g && !areB s g):=by omega
  rw [List.countP_pos_iff] at this
  exact this
 intro h
 have:=List.countP_pos_iff.2 h
 omega
theorem j_Z (l : List S33) (hl : l.length ≤ 1000) (a : Int) : ∀ (suf pre : List S33),l = pre ++ suf →
 Ev (fun k => a_I.l0 k l (l.length : Int) (pre.length : Int) a l) (suf.all fun x => decide (x.f2 ≤ 0) || wok l x.f2)
 | [],pre,h => by
  have:=l_Y h
  refine Ev.step (f:=fun _ => some true) (fun k => ?_) (Ev.now _)
  rw [a_I.l0,if_neg (by omega)]
 | x :: suf,pre,h => by
  have hlt:=m_J h
  have ih:=j_Z l hl a suf (pre ++ [x]) (h_v h)
  have h1 : ∀ b0 b1 b3 b4 b5 b6 b7 b8 b9 b10,b_I.f l b0 b1 x.f2 b3 b4 b5 b6 b7 b8 b9 b10 = some ((l.countP (fun s => areB s x.f2) : Nat) : Int):=fun _ _ _ _ _ _ _ _ _ _ => by unfold b_I.f;rw [if_pos (by omega)]
  have h2 : ∀ b0 b1 b3 b4 b5 b6 b7 b8 b9 b10,b_E.f l b0 b1 x.f2 b3 b4 b5 b6 b7 b8 b9 b10 = some ((l.countP (fun s => d_4 s x.f2) : Nat) : Int):=fun _ _ _ _ _ _ _ _ _ _ => by unfold b_E.f;rw [if_pos (by omega)]
  rw [List.all_cons]
  refine Ev.step (f:=fun k => if x.f2 > 0 then (if ((l.countP (fun s => areB s x.f2) : Nat) : Int) > 0 then (if ((l.countP (fun s => areB s x.f2) : Nat) : Int) < ((l.countP (fun s => d_4 s x.f2) : Nat) : Int) then (some false) else (a_I.l0 k l (l.length : Int) ((pre ++ [x]).length : Int) a l)) else (a_I.l0 k l (l.length : Int) ((pre ++ [x]).length : Int) a l)) else (a_I.l0 k l (l.length : Int) ((pre ++ [x]).length : Int) a l)) (fun k => ?_) ?_
  ·rw [a_I.l0,if_pos (by omega),if_pos (by omega),if_pos (by omega),rdm h,h1,Option.bind_some,h2,Option.bind_some,g_v (x:=x) (by omega)]
  by_cases g0 : x.f2 > 0
  ·simp only [if_pos g0,decide_eq_false (show ¬ x.f2 ≤ 0 by omega),Bool.false_or]
   unfold wok
   have hc:=k_x l x.f2
   have hp : (0 < l.countP (fun s => areB s x.f2)) ↔ l.any (fun s => areB s x.f2) = true:=by rw [List.countP_pos_iff,List.any_eq_true]
   cases e1 : l.any (fun s => areB s x.f2)
   ·rw [e1] at hp
    have : ¬ ((l.countP (fun s => areB s x.f2) : Nat) : Int) > 0:=by intro h;have:=hp.1 (by omega);cases this
    simp only [if_neg this,Bool.false_and,Bool.not_false,Bool.true_and]
    exact ih
   ·rw [e1] at hp
    have : ((l.countP (fun s => areB s x.f2) : Nat) : Int) > 0:=by have:=hp.2 rfl;omega
    simp only [if_pos this,Bool.true_and]
    cases e2 : l.any (fun s => d_4 s x.f2 && !areB s x.f2)
    ·rw [e2] at hc
     have : ¬ ((l.countP (fun s => areB s x.f2) : Nat) : Int) < ((l.countP (fun s => d_4 s x.f2) : Nat) : Int):=by intro h;have:=hc.1 (by omega);cases this
     simp only [if_neg this,Bool.not_false,Bool.true_and]
     exact ih
    ·rw [e2] at hc
     have : ((l.countP (fun s => areB s x.f2) : Nat) : Int) < ((l.countP (fun s => d_4 s x.f2) : Nat) : Int):=by have:=hc.2 rfl;omega
     simp only [if_pos this]
     exact Ev.now _
  ·simp only [if_neg g0,decide_eq_true (show x.f2 ≤ 0 by omega),Bool.true_or,Bool.true_and]
   exact ih
theorem n_D (a : Int) (l : List S33) (hl : l.length ≤ 1000) : Ev (fun k => a_I.f k a l) (e_u a l && l.all fun x => decide (x.f2 ≤ 0) || wok l x.f2):=by
 unfold a_I.f
 refine Ev.bind (j_z a l (by omega)) ?_
 cases h : e_u a l
 ·exact Ev.now _
 simpa using j_Z l hl a l [] rfl
def c_Q (x : S33) : Bool:=x.f5 && !x.f6 && (x.f2 == 0) && (x.f4 == -1)
theorem q_2 (x : S33) : b_P.f x.f0 x.f1 x.f2 x.f3 x.f4 x.f5 x.f6 x.f7 x.f8 x.f9 x.f10 = some (c_Q x):=by
 unfold b_P.f c_Q
 cases x.f5 <;> cases x.f6 <;> simp <;> (by_cases h : x.f2 = 0 <;> simp [h])
def h_R : Nat → List S33 → Nat
 | w,[] => w
 | w,x :: r => h_R (if c_Q x = true then w ||| x.f7.toNat else w) r
def takeN : Nat → List S33 → Nat
 | t,[] => t
 | t,x :: r => takeN (if x.f4 > -1 then t ||| 2 ^ x.f4.toNat else t) r
theorem h_S (c : Nat) : ∀ (l : List S33) (w : Nat),(h_R w l).testBit c = (w.testBit c || l.any fun x => c_Q x && x.f7.toNat.testBit c)
 | [],w => by simp [h_R]
 | x :: l,w => by
  rw [h_R,h_S c l,List.any_cons]
  cases c_Q x <;> simp [Nat.testBit_or,Bool.or_assoc]
theorem g_A (c : Nat) : ∀ (l : List S33) (t : Nat),(takeN t l).testBit c = (t.testBit c || l.any fun x => decide (x.f4 = (c : Int)))
 | [],t => by simp [takeN]
 | x :: l,t => by
  rw [takeN,g_A c l,List.any_cons]
  by_cases h : x.f4 > -1
  ·obtain ⟨q,hq⟩ : ∃ q : Nat,x.f4 = (q : Int):=⟨x.f4.toNat,by omega⟩
   have e : decide (q = c) = decide ((q : Int) = (c : Int)):=by rw [decide_eq_decide];omega
   rw [if_pos h,hq,Int.toNat_natCast,Nat.testBit_or,Nat.testBit_two_pow,Bool.or_assoc,e]
  ·simp only [if_neg h,decide_eq_false (show ¬ x.f4 = (c : Int) by omega),Bool.false_or]
theorem l_R (l : List S33) (hl : l.length ≤ 1000) (hf : ∀ x ∈ l,Fine x) : ∀ (suf pre : List S33) (w t : Nat),l = pre ++ suf → w < 256 → t < 256 →
 Ev (fun k => a_H.l0 k (w : Int) (t : Int) l (l.length : Int) (pre.length : Int)) ((e_Q (nd (h_R w suf) (takeN t suf))).map fun x : Nat => (x : Int))
 | [],pre,w,t,h,hw,ht => by
  have:=l_Y h
  refine Ev.step (f:=fun _ => some ((e_Q (nd w t)).map fun x : Nat => (x : Int))) (fun k => ?_) (Ev.now _)
  have hn : nd w t < 256:=m_G fun i hi => by rw [r_V (by omega),q_0 hw hi];rfl
  rw [a_H.l0,if_neg (by omega),nd_n]
  unfold d_V.f
  rw [if_pos (by omega),Int.toNat_natCast,show nd w t &&& 255 = nd w t by rw [show (255 : Nat) = 2 ^ 8 - 1 from rfl,Nat.and_two_pow_sub_one_eq_mod];omega]
  rfl
 | x :: suf,pre,w,t,h,hw,ht => by
  have hlt:=m_J h
  have hx:=hf x (by subst h;simp)
  have hwt:=q_2 x
  obtain ⟨h1,h2,h3,h4,h5,h6⟩:=hx
  have hs : wrap64 ((pre.length : Int) + 1) = ((pre ++ [x]).length : Int):=g_v (by omega)
  have ih:=fun w t hw ht => l_R l hl hf suf (pre ++ [x]) w t (h_v h) hw ht
  obtain ⟨m,hm⟩ : ∃ m : Nat,x.f7 = (m : Int):=⟨x.f7.toNat,by omega⟩
  have hor : Go.bits .or .u32 (w : Int) x.f7 = ((w ||| m : Nat) : Int):=by rw [hm];exact or_n (by omega) (by omega)
  have hw' : w ||| m < 256:=Nat.or_lt_two_pow (n:=8) hw (by omega)
  have hto : x.f4 > -1 → Go.bits .or .u32 (t : Int) (shl .u32 1 x.f4) = ((t ||| 2 ^ x.f4.toNat : Nat) : Int):=fun hc => by
   obtain ⟨q,hq⟩ : ∃ q : Nat,x.f4 = (q : Int):=⟨x.f4.toNat,by omega⟩
   rw [hq,shl1 q (by omega),Int.toNat_natCast]
   exact or_n (by omega) (Nat.pow_lt_pow_right (by decide) (by omega))
  have ht' : x.f4 > -1 → t ||| 2 ^ x.f4.toNat < 256:=fun hc => Nat.or_lt_two_pow (n:=8) ht (Nat.pow_lt_pow_right (by decide) (by omega))
  have hm2 : x.f7.toNat = m:=by omega
  rw [h_R,takeN]
  refine Ev.step (f:=fun k => if c_Q x = true then (if x.f4 > (-1) then (a_H.l0 k ((w ||| m : Nat) : Int) ((t ||| 2 ^ x.f4.toNat : Nat) : Int) l (l.length : Int) ((pre ++ [x]).length : Int)) else (a_H.l0 k ((w ||| m : Nat) : Int) (t : Int) l (l.length : Int) ((pre ++ [x]).length : Int))) else (if x.f4 > (-1) then (a_H.l0 k (w : Int) ((t ||| 2 ^ x.f4.toNat : Nat) : Int) l (l.length : Int) ((pre ++ [x]).length : Int)) else (a_H.l0 k (w : Int) (t : Int) l (l.length : Int) ((pre ++ [x]).length : Int)))) (fun k => ?_) ?_
  ·rw [a_H.l0,if_pos (by omega),if_pos (by omega),if_pos (by omega),rdm h,hwt,Option.bind_some,hs,hor]
   by_cases hc : x.f4 > -1
   ·simp only [if_pos hc,hto hc,if_pos (show 0 ≤ x.f4 by omega)]
   ·simp only [if_neg hc]
  ·rw [hm2]
   cases c_Q x <;> by_cases hc : x.f4 > -1
   ·simpa [hc] using ih _ _ hw (ht' hc)
   ·simpa [hc] using ih _ _ hw ht
   ·simpa [hc] using ih _ _ hw' (ht' hc)
   ·simpa [hc] using ih _ _ hw' ht
def idleB (l : List S33) (c : Nat) : Bool:=(l.any fun x => c_Q x && x.f7.toNat.testBit c) && !(l.any fun x => decide (x.f4 = (c : Int)))
def h_s (l : List S33) : List Nat:=(List.range 8).filter (idleB l)
theorem j_Y : ∀ (l : List S33) (w : Nat),w < 256 → (∀ x ∈ l,Fine x) → h_R w l < 256
 | [],w,h,_ => h
 | x :: l,w,h,hf => by
  obtain ⟨h1,h2,h3,h4,h5,h6⟩:=hf x (by simp)
  refine j_Y l _ ?_ (fun y hy => hf y (by simp [hy]))
  cases c_Q x
  ·exact h
  ·exact Nat.or_lt_two_pow (n:=8) h (by omega)
theorem m_C (l : List S33) (hf : ∀ x ∈ l,Fine x) : e_Q (nd (h_R 0 l) (takeN 0 l)) = h_s l:=by
 unfold e_Q h_s
 congr 1
 funext c
 have:=j_Y l 0 (by decide) hf
 rw [r_V (by omega),h_S,g_A]
 simp [idleB]
theorem r_d (a : Int) (l : List S33) (hl : l.length ≤ 1000) (hf : e_u a l = true → ∀ x ∈ l,Fine x) : Ev (fun k => a_H.f k a l) (if e_u a l = true then (h_s l).map (fun x : Nat => (x : Int)) else []):=by
 unfold a_H.f
 refine Ev.bind (j_z a l (by omega)) ?_
 cases h : e_u a l
 ·exact Ev.now _
 have:=l_R l hl (hf h) l [] 0 0 rfl (by decide) (by decide)
 rw [m_C l (hf h)] at this
 simpa using this
theorem m_S : Ev (fun k => a_F.f k) true:=Ev.of a_F.mono (k:=100) (by kernel_rfl)
end Go.Proofs.YtgglkfilkagblaaDoor.Pure
end
section
namespace Go.Proofs.YtgglkfilkagblaaDoor.Pure
open Go.RowKit Go.Proofs.YtgglkfilkagblaaDoor.Q Go.Proofs.YtgglkfilkagblaaDoorW.PrintWords Go.Proofs.YtgglkfilkagblaaDoorW.PrintLast Go.Proofs.YtgglkfilkagblaaDoorW.PrintMore
set_option linter.unusedVariables false
set_option linter.unusedSimpArgs false
def canB (x : S33) : Bool:=x.f5 && !x.f6
def takB (x : S33) : Bool:=decide (0 ≤ x.f4)
def updN (m : Int) (x : S33) : S33:=⟨x.f0,x.f1,0,x.f3,x.f4,x.f5,x.f6,m,x.f8,x.f9,x.f10⟩
theorem g_4 : ∀ (l : List S33) (t : Nat),(∀ x ∈ l,Fine x) → adm t l = true → pc (takeN t l) = pc t + l.countP takB ∧ ∀ x ∈ l,takB x = true → canB x = true ∧ x.f7.toNat.testBit x.f4.toNat = true
 | [],t,hf,h => by simp [takeN]
 | x :: l,t,hf,h => by
  obtain ⟨h1,h2,h3,h4,h5,h6⟩:=hf x (by simp)
  have hf' : ∀ y ∈ l,Fine y:=fun y hy => hf y (by simp [hy])
  unfold adm at h
  by_cases c : x.f4 = -1
  ·rw [if_pos c] at h
   obtain ⟨i1,i2⟩:=g_4 l t hf' h
   have hx : takB x = false:=by unfold takB;rw [c];rfl
   refine ⟨?_,fun y hy ht => ?_⟩
   ·rw [takeN,if_neg (by omega),i1,List.countP_cons,hx];simp
   ·rcases List.mem_cons.mp hy with rfl|hy
    ·rw [hx] at ht;cases ht
    ·exact i2 y hy ht
  ·rw [if_neg c] at h
   simp only [Bool.and_eq_true] at h
   obtain ⟨⟨⟨⟨g1,g2⟩,g3⟩,g4⟩,g5⟩:=h
   obtain ⟨i1,i2⟩:=g_4 l _ hf' g5
   have hx : takB x = true:=by unfold takB;exact decide_eq_true (by omega)
   refine ⟨?_,fun y hy ht => ?_⟩
   ·rw [takeN,if_pos (by omega),i1,List.countP_cons,hx]
    obtain ⟨q,hq⟩ : ∃ q : Nat,x.f4 = (q : Int):=⟨x.f4.toNat,by omega⟩
    rw [hq,Int.toNat_natCast] at g4 ⊢
    have : pc (t ||| 2 ^ q) = pc t + 1:=by
     have hq8 : q < 8:=by omega
     simp only [Bool.not_eq_true'] at g4
     have : q = 0 ∨ q = 1 ∨ q = 2 ∨ q = 3 ∨ q = 4 ∨ q = 5 ∨ q = 6 ∨ q = 7:=by omega
     unfold pc
     simp only [Nat.testBit_or,Nat.testBit_two_pow]
     rcases this with rfl|rfl|rfl|rfl|rfl|rfl|rfl|rfl <;> simp [g4] <;> omega
    rw [this]
    simp
    omega
   ·rcases List.mem_cons.mp hy with rfl|hy
    ·exact ⟨by unfold canB;simp [g1];simpa using g2,g3⟩
    ·exact i2 y hy ht
theorem j_O (N c : Nat) : (2 ^ N - 1).testBit c = decide (c < N):=Nat.testBit_two_pow_sub_one ..
theorem y_h {t N : Nat} (hN : N ≤ 8) (h : ∀ c,t.testBit c = true → c < N) : pc t ≤ N:=by
 have hz : ∀ c,N ≤ c → t.testBit c = false:=fun c hc => by
  cases e : t.testBit c
  ·rfl
  have:=h c e;omega
 have hb : ∀ c,(t.testBit c).toNat ≤ (if c < N then 1 else 0):=fun c => by
  by_cases e : c < N
  ·rw [if_pos e];cases t.testBit c <;> simp
  rw [if_neg e,hz c (by omega)];simp
 have b0:=hb 0;have b1:=hb 1;have b2:=hb 2;have b3:=hb 3;have b4:=hb 4;have b5:=hb 5;have b6:=hb 6;have b7:=hb 7
 have : N = 0 ∨ N = 1 ∨ N = 2 ∨ N = 3 ∨ N = 4 ∨ N = 5 ∨ N = 6 ∨ N = 7 ∨ N = 8:=by omega
 unfold pc
 rcases this with rfl|rfl|rfl|rfl|rfl|rfl|rfl|rfl|rfl <;> simp (config := { decide:=true }) only [if_true,if_false] at b0 b1 b2 b3 b4 b5 b6 b7 <;> omega
theorem y_g {t N : Nat} (hN : N ≤ 8) (h : ∀ c,t.testBit c = true ↔ c < N) : pc t = N:=by
 have hz : ∀ c,t.testBit c = decide (c < N):=fun c => by rw [Bool.eq_iff_iff,h c,decide_eq_true_eq]
 have : N = 0 ∨ N = 1 ∨ N = 2 ∨ N = 3 ∨ N = 4 ∨ N = 5 ∨ N = 6 ∨ N = 7 ∨ N = 8:=by omega
 unfold pc
 simp only [hz]
 rcases this with rfl|rfl|rfl|rfl|rfl|rfl|rfl|rfl|rfl <;> decide
theorem q_W {l : List S33} {N : Nat} (h1 : 1 ≤ N) (h8 : N ≤ 8) (hf : ∀ x ∈ l,Fine x) (hN : ∀ x ∈ l,x.f2 = 0 ∧ x.f7 = ((2 ^ N - 1 : Nat) : Int)) (ha : adm 0 l = true) (hi : h_s l = []) :
 ((l.countP takB : Nat) : Int) = mn ((l.countP canB : Nat) : Int) (N : Int):=by
 obtain ⟨e1,e2⟩:=g_4 l 0 hf ha
 have e0 : pc 0 = 0:=by decide
 rw [e0,Nat.zero_add] at e1
 have hbit : ∀ c : Nat,(takeN 0 l).testBit c = l.any fun x => decide (x.f4 = (c : Int)):=fun c => by rw [g_A];simp
 have hlt : ∀ c,(takeN 0 l).testBit c = true → c < N:=fun c hc => by
  rw [hbit,List.any_eq_true] at hc
  obtain ⟨x,hx,hxc⟩:=hc
  rw [decide_eq_true_eq] at hxc
  have:=(e2 x hx (by unfold takB;exact decide_eq_true (by omega))).2
  rw [(hN x hx).2,hxc,Int.toNat_natCast,Int.toNat_natCast,j_O] at this
  simpa using this
 have hle:=y_h h8 hlt
 have hmono : l.countP takB ≤ l.countP canB:=List.countP_mono_left fun x hx ht => (e2 x hx ht).1
 unfold mn
 by_cases hc : l.countP takB = l.countP canB
 ·split <;> omega
 have hex : ∃ x ∈ l,canB x = true ∧ takB x = false:=by
  apply Classical.byContradiction
  intro hno
  apply hc
  apply Nat.le_antisymm hmono
  refine List.countP_mono_left fun x hx ht => ?_
  cases e : takB x
  ·exact (hno ⟨x,hx,ht,e⟩).elim
  rfl
 obtain ⟨x,hx,hx1,hx2⟩:=hex
 have hw : c_Q x = true:=by
  obtain ⟨_,_,g3,_,_,_⟩:=hf x hx
  unfold takB at hx2
  rw [decide_eq_false_iff_not] at hx2
  have e4 : x.f4 = -1:=by omega
  unfold canB at hx1
  unfold c_Q
  rw [(hN x hx).1,e4]
  simpa using hx1
 have hall : ∀ c,(takeN 0 l).testBit c = true ↔ c < N:=fun c => by
  refine ⟨hlt c,fun hcN => ?_⟩
  have hid : idleB l c = false:=by
   cases e : idleB l c
   ·rfl
   have : c ∈ h_s l:=by unfold h_s;exact List.mem_filter.mpr ⟨List.mem_range.mpr (by omega),e⟩
   rw [hi] at this
   cases this
  unfold idleB at hid
  have hwa : (l.any fun x => c_Q x && x.f7.toNat.testBit c) = true:=by
   rw [List.any_eq_true]
   refine ⟨x,hx,?_⟩
   rw [hw,(hN x hx).2,Int.toNat_natCast,j_O]
   simpa using hcN
  rw [hwa,Bool.true_and] at hid
  rw [hbit]
  simpa using hid
 have:=y_g h8 hall
 rw [e1] at this
 split <;> omega
theorem n_e {A B : List S33} {x : S33} {n : Nat} (h : A.length = n) : a_a (A ++ x :: B) (n : Int) = x:=by subst h;simp [a_a]
theorem set_mid {A B : List S33} {x y : S33} {n : Nat} (h : A.length = n) : (A ++ x :: B).set (n : Int).toNat y = A ++ y :: B:=by subst h;simp
theorem n_c (l : List S33) (a m : Int) (N : Nat) (hl : l.length ≤ 1000) (hm : ((shl .u32 1 (N : Int)) - 1) % 4294967296 = m) (R : Bool)
 (hR : Ev (fun k => (a_z.f k a (l.map (updN m))).bind fun t266 => (if t266 = true then ((a_H.f k a (l.map (updN m))).bind fun t267 => (if (t267.length : Int) > 0 then (some true) else (if ((l.countP takB : Nat) : Int) = (mn ((l.countP canB : Nat) : Int) (N : Int)) then ((a_I.f k a (l.map (updN m))).bind fun t270 => (some t270)) else (some false)))) else (some true))) R) :
 ∀ (suf pre : List S33),l = pre ++ suf → Ev (fun k => a_m.l0 k (N : Int) ((pre.countP canB : Nat) : Int) ((pre.countP takB : Nat) : Int) (l.length : Int) (pre.length : Int) a (pre.map (updN m) ++ suf)) R
 | [],pre,h => by
  rw [List.append_nil] at h ⊢
  subst h
  refine Ev.step (fun k => ?_) hR
  rw [a_m.l0,if_neg (by omega)]
 | x :: suf,pre,h => by
  have hlt:=m_J h
  have hlen : (pre.map (updN m)).length = pre.length:=by simp
  have hle : pre.countP canB ≤ pre.length:=List.countP_le_length
  have hle' : pre.countP takB ≤ pre.length:=List.countP_le_length
  have hlen2 : ∀ y : S33,pre.length < (pre.map (updN m) ++ y :: suf).length:=fun y => by simp
  have ih:=n_c l a m N hl hm R hR suf (pre ++ [x]) (h_v h)
  rw [List.map_append,List.map_cons,List.map_nil,List.append_assoc,List.singleton_append,List.countP_append,List.countP_append,List.countP_singleton,List.countP_singleton] at ih
  have e : ∀ k,a_m.l0 (k + 1) (N : Int) ((pre.countP canB : Nat) : Int) ((pre.countP takB : Nat) : Int) (l.length : Int) (pre.length : Int) a (pre.map (updN m) ++ x :: suf) =
   a_m.j1 k (N : Int) ((pre.countP canB : Nat) : Int) ((pre.countP takB : Nat) : Int) (pre.length : Int) (l.length : Int) (pre.length : Int) (canB x) a (pre.map (updN m) ++ updN m x :: suf):=fun k => by
   have:=hlen2 x
   rw [a_m.l0,if_pos (by omega),if_pos (by omega),if_pos (by omega),if_pos (by omega)]
   simp only [Option.bind_some,n_e hlen,set_mid hlen,hm]
   show (if x.f5 = true then _ else _) = a_m.j1 k _ _ _ _ _ _ (x.f5 && !x.f6) a (pre.map (updN m) ++ updN m x :: suf)
   cases hx5 : x.f5
   ·rw [if_neg (by decide),Bool.false_and];unfold updN;rw [hx5]
   ·rw [if_pos rfl,Bool.true_and];unfold updN;rw [hx5]
  refine Ev.step e ?_
  have hn1 : wrap64 ((pre.length : Int) + 1) = ((pre ++ [x]).length : Int):=g_v (by omega)
  have hn2 : wrap64 (((pre.countP canB : Nat) : Int) + 1) = ((pre.countP canB + 1 : Nat) : Int):=f_7 _ (by omega)
  have hn3 : wrap64 (((pre.countP takB : Nat) : Int) + 1) = ((pre.countP takB + 1 : Nat) : Int):=f_7 _ (by omega)
  have hj:=hlen2 (updN m x)
  have h4 : (updN m x).f4 = x.f4:=rfl
  refine Ev.step (fun k => ?_) ih
  rw [a_m.j1]
  simp only [n_e hlen,h4,hn1,hn2,hn3]
  unfold takB at *
  cases canB x <;> by_cases ht : 0 ≤ x.f4 <;> simp [ht] <;> omega
theorem j_B (a : Int) (l : List S33) (n : Int) (h : wf24 ⟨a,l⟩) (hn : (Lit.int .i64 n).wf = true) : ∃ k,a_m.f k a l n = some true:=by
 refine Ev.rounds (g:=fun k => a_m.f k a l n) (Ev.bind m_S ?_)
 simp only [if_true]
 by_cases h30 : (l.length : Int) > 30
 ·simp only [if_pos h30];exact Ev.now _
 simp only [if_neg h30]
 have hl : l.length ≤ 1000:=by omega
 have hm : ∀ x ∈ l,May x:=fun x hx => by
  obtain ⟨_,_,_,_,_,_,_,h7,_⟩:=h.2.2 x hx
  have:=bounds_u32 h7
  exact ⟨this.1,by omega⟩
 obtain ⟨N,hN⟩ : ∃ N : Nat,mx n 0 % 8 + 1 = (N : Int):=⟨(mx n 0 % 8 + 1).toNat,by omega⟩
 have h1 : 1 ≤ N:=by omega
 have h8 : N ≤ 8:=by omega
 simp only [Option.bind_some,List.nil_append,hN,List.length_nil]
 simp only [show (0 + l.length < 1954687338268) = True from eq_true (by omega),if_true]
 have hmm : ((shl .u32 1 (N : Int)) - 1) % 4294967296 = ((2 ^ N - 1 : Nat) : Int):=by
  have : N = 1 ∨ N = 2 ∨ N = 3 ∨ N = 4 ∨ N = 5 ∨ N = 6 ∨ N = 7 ∨ N = 8:=by omega
  rcases this with rfl|rfl|rfl|rfl|rfl|rfl|rfl|rfl <;> rfl
 refine n_c l a _ N hl hmm true ?_ l [] rfl
 generalize hL : l.map (updN ((2 ^ N - 1 : Nat) : Int)) = L
 have hLl : L.length ≤ 1000:=by subst hL;simpa using hl
 have hpow : 2 ^ N - 1 < 256:=by
  have : 2 ^ N ≤ 2 ^ 8:=Nat.pow_le_pow_right (by decide) h8
  omega
 have hLm : ∀ x ∈ L,x.f2 = 0 ∧ x.f7 = ((2 ^ N - 1 : Nat) : Int):=by
  subst hL
  intro x hx
  obtain ⟨y,hy,rfl⟩:=List.mem_map.mp hx
  exact ⟨rfl,rfl⟩
 have hmay : ∀ x ∈ L,May x:=fun x hx => by
  have:=(hLm x hx).2
  exact ⟨by omega,by omega⟩
 have hf : e_u a L = true → ∀ x ∈ L,Fine x:=fun hr => n_H hr hmay
 have hca : l.countP canB = L.countP canB:=by subst hL;rw [List.countP_map];rfl
 have hta : l.countP takB = L.countP takB:=by subst hL;rw [List.countP_map];rfl
 rw [hca,hta]
 refine Ev.bind (l_7 a L hLl hf) ?_
 cases hr : e_u a L
 ·exact Ev.now _
 cases hadm : adm 0 L
 ·exact Ev.now _
 simp only [Bool.and_true,if_true]
 refine Ev.bind (r_d a L hLl hf) ?_
 rw [hr]
 simp only [if_true]
 by_cases hid : h_s L = []
 rotate_left
 ·have : 0 < (h_s L).length:=List.length_pos_iff.mpr hid
  simp only [List.length_map,if_pos (show (((h_s L).length : Nat) : Int) > 0 by omega)]
  exact Ev.now _
 rw [hid]
 simp only [List.map_nil,List.length_nil]
 simp only [if_neg (show ¬ (((0 : Nat) : Int) > 0) by omega),if_pos (q_W h1 h8 (hf hr) hLm hadm hid)]
 refine Ev.bind (n_D a L hLl) ?_
 rw [hr,Bool.true_and]
 have : (L.all fun x => decide (x.f2 ≤ 0) || wok L x.f2) = true:=by
  rw [List.all_eq_true]
  intro x hx
  rw [(hLm x hx).1]
  rfl
 rw [this]
 exact Ev.now _
end Go.Proofs.YtgglkfilkagblaaDoor.Pure
end
section
namespace Go.Proofs.YtgglkfilkagblaaDoor.auditOne
open Go.ChangeShapes Go.WideShapes Go.ChangeAt Go.RowKit Go.Proofs.YtgglkfilkagblaaDoor.Q
open Go.Proofs.YtgglkfilkagblaaDoorW.PrintWords Go.Proofs.YtgglkfilkagblaaDoorW.PrintLast Go.Proofs.YtgglkfilkagblaaDoorW.PrintMore
set_option linter.unusedVariables false
set_option linter.unusedSimpArgs false
theorem r_T {W : World} (h : laidMetH Tryd.prog Rows.auditOneRow.laid W) : d_1 W:=by
 rw [MakeChecks.laidMetH_plain _ _ _ (by kernel_rfl)] at h
 have h' : laidMet Tryd.prog [("math/bits.deBruijn32tab", Lib.tabData .u8 (Lib.deBruijn32tab.map fun n : Nat => (n : Int)))] W := h
 have ht:=Lib.tabIs_of_head (g:=0) (by kernel_rfl) (by kernel_rfl) Tryd.underlying74 Tryd.underlying5 (by kernel_rfl) (by kernel_rfl) h'
 intro j hj
 have hc:=ht.cell (g:=0) (by kernel_rfl) j (by simpa using hj)
 rw [hc]
 simp only [List.getD_eq_getElem?_getD,List.getElem?_map]
 rw [List.getElem?_eq_getElem hj]
 rfl
theorem m_f (os : Os) (args : Array Value) : laidMetH Tryd.prog Rows.auditOneRow.laid ((World.doorLaid Tryd.prog 14 os).forCall (fun _ _ => 0) ⟨#[],args,[]⟩).memory :=
 laidMetH_of_parts3 (fuel:=8) (laidMet_of_run' 8 (by kernel_rfl) (by kernel_rfl)) (by kernel_rfl) (by kernel_rfl)
set_option maxRecDepth 100000 in
theorem lifted (os : Os) (started : os.Started) (H : Type) (enc : TypeId × Value → H) :
 ReturnsInHanded {} Tryd.checked os 4 .any (fun w args => (Rows.auditOneSpec.pre enc Tryd.prog Tryd.f4 [] false w args ∧ laidMetH Tryd.prog Rows.auditOneRow.laid w) ∧ sizedMet enc Tryd.prog Tryd.f4 (OpenSpec.ofChange Rows.auditOneSpec) false w args) (Rows.auditOneSpec.post enc Tryd.prog Tryd.f4 false true false false):=by
 refine returnsInHanded_of_change_and (C:=Tryd.checked) (X:=fun w _ => laidMetH Tryd.prog Rows.auditOneRow.laid w) (fun _ _ _ hh h => h.of_heap hh) own started (by kernel_rfl) Tryd.func4
  (ChangeSpec.witness_shaped (enc:=enc) (C:=Tryd.checked) (os:=os) (X:=fun w _ => laidMetH Tryd.prog Rows.auditOneRow.laid w) false (World.doorLaid Tryd.prog 14 os) #[.agg #[.int .i64 0,.slice none 0 0],.int .i64 0] 8 rfl (World.shaped_of_RefB (by kernel_rfl) (by kernel_rfl)) (by kernel_rfl) (by kernel_rfl) (by kernel_rfl) (m_f os _)) ?_
 intro W base args ds gs before hval0 hW hcnd hsz0 hL _
 have hT:=r_T hL
 have hval : ∀ (j : Nat) t v,Tryd.f4.params[j]? = some t → args[j]? = some v → Value.okWide Tryd.prog W .any base t v:=hval0
 have hW':=hW
 obtain ⟨p,q,hA0,hV,rfl,hfz,hnd⟩:=hW
 have hA : DataW.TrodAll enc Tryd.prog W 0 (fun _ => true) true Tryd.f4.params.toList args.toList ds p:=hA0
 rw [Tryd.params4] at hA hval
 obtain ⟨v0,vs0,d0,ds0,p0,q0,hargs,rfl,rfl,h0,r0⟩:=trodAll_cons hA
 obtain ⟨v1,vs1,d1,ds1,p1,q1,rfl,rfl,rfl,h1,r1⟩:=trodAll_cons r0
 obtain ⟨rfl,rfl,rfl⟩:=trodAll_nil r1
 obtain rfl : args = #[v0,v1]:=by cases args;simp_all
 obtain ⟨rfl,rfl⟩:=trodVars_none hV
 have k0:=h0
 have lt0 : ∀ x ∈ p0,x.block < W.heap.size:=by obtain ⟨m,hm⟩:=k0;exact DataW.trod_lt m _ _ _ hm
 obtain ⟨cs0,rfl,hz0⟩:=okWide_struct Tryd.underlying24 (hval 0 24 v0 rfl rfl)
 obtain ⟨fuel0,hf0⟩:=h0
 obtain ⟨x0,hK0,wf0_⟩:=op24.open_ hf0
 obtain ⟨A0_1,c0_1,he0,hc0_1,hr0_1⟩:=f_6 hK0
 have hq0:=toList_eq he0
 simp only [Value.cells] at hq0
 subst hq0
 obtain ⟨a1,rfl,rfl,rfl,w1⟩:=open_int Tryd.underlying3 (hval 1 3 v1 rfl rfl) h1
 obtain ⟨K,hK⟩:=Pure.j_B x0.f0 x0.f1 a1 wf0_ w1
 refine (a_m.calls _ _ _ _ _ _ _ _ hr0_1 hc0_1 hT hK).mono fun e W' ⟨he,bel⟩ => ?_
 subst he
 exact ⟨_,rfl,_,_,_,[],_,[],hW',trodAll_mk1 (shut_bool Tryd.underlying4 _),(trodAll_cons_mk (Below.trod laidOut (by kernel_rfl) (of_decide_eq_true (by kernel_rfl)) k0 bel lt0) (trodAll_cons_mk (shut_int Tryd.underlying3 w1) trodAll_mk0)),rfl,bel.frame _,fun h => by cases h⟩
theorem over : Rows.auditOneRow.holds Tryd.pinned (OpenSpec.ofChange Rows.auditOneSpec) :=
 OpenClaim.holds_of_wide 4 Tryd.f4 rfl rfl rfl rfl rfl rfl rfl ⟨rfl,rfl,rfl,rfl,rfl⟩ rfl rfl rfl rfl rfl (by kernel_rfl) Tryd.func4 (by kernel_rfl)
  (of_decide_eq_true (by kernel_rfl)) (by unfold Func.isWrapper;first|(rw [if_pos (by decide +kernel)];kernel_rfl)|(rw [if_neg (by decide +kernel)];exact ⟨rfl,rfl⟩))
  (fun os started H enc _ => lifted os started H enc)
theorem s_S : Rows.AuditOneCardSaid :=
 Claim7.holds_tied_plain_at .later [] [.data] true (true, "96a70d4718ba9489c270949b74c300e5bf2d808b5980120bfb446f63a4fd6787") false
  over (fun _ h => by cases h) (by kernel_rfl) (fun _ h => by cases h) auditOne_row_tie rfl ⟨rfl,rfl⟩ (by kernel_rfl) rfl
  (fun f fn hf hfn => by
   obtain rfl : f = 4 := Option.some.inj ((show Tryd.prog.funcNamed "mainsheet/mainsheetlaw29.AuditOne" = some 4 by kernel_rfl).symm.trans hf) |>.symm
   obtain rfl : fn = Tryd.f4:=(Option.some.inj (Tryd.func4.symm.trans hfn)).symm
   exact ⟨by kernel_rfl,fun j t ht => by
    rw [Tryd.params4] at ht
    rcases j with _|_|j
    ·obtain rfl : 24 = t:=by simpa using ht
     exact (show Tryd.prog.wantsStandIn 24 = false by kernel_rfl)
    ·obtain rfl : 3 = t:=by simpa using ht
     exact (show Tryd.prog.wantsStandIn 3 = false by kernel_rfl)
    ·simp at ht⟩)
  (by kernel_rfl)
theorem proved : Rows.AuditOneCardSaid:=s_S
#print axioms proved
end Go.Proofs.YtgglkfilkagblaaDoor.auditOne
namespace Go.Proofs.YtgglkfilkagblaaDoor
theorem auditOne_holds : Rows.AuditOneCardSaid:=auditOne.proved
end Go.Proofs.YtgglkfilkagblaaDoor
end
