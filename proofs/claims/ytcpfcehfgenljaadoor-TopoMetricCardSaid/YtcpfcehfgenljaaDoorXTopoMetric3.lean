/- Part 4 of 4 of what the row of TopoMetric stands on: contracts over the given program's functions, the plain law, the row; no condition beyond those that each theorem states. -/
import Derived.Test.YtcpfcehfgenljaaDoorXTopoMetric2
import Derived.Test.YtcpfcehfgenljaaDoorTie
import Derived.Test.YtcpfcehfgenljaaDoorCards
import Derived.SevenTiedAt
import Derived.LaidMore
import Derived.Lib.LaidTab
section
namespace Go.Proofs.YtcpfcehfgenljaaDoor.Q
open Go.RowKit Go.Proofs.YtcpfcehfgenljaaDoorW.PrintWords Go.Proofs.YtcpfcehfgenljaaDoorW.PrintLast Go.Proofs.YtcpfcehfgenljaaDoorW.PrintMore
set_option linter.unusedVariables false
set_option linter.unusedSimpArgs false
mutual
def a_b.l0 : Nat → Int → Int → Int → List (S56) → Option (Bool)
 | 0,_,_,_,_ => none
 | k + 1,x4,x26,x27,x354000 => if x27 < x26 then (a_b.l1 k x4 x27 x26 x27 x4 0 x354000) else (some true)
def a_b.l1 : Nat → Int → Int → Int → Int → Int → Int → List (S56) → Option (Bool)
 | 0,_,_,_,_,_,_,_ => none
 | k + 1,x4,x5,x26,x27,x30,x31,x354000 => if x31 < x30 then ((a_x.f k x354000 x5 x31).bind fun bt355 => ((a_x.f k x354000 x31 x5).bind fun bt357 => (if bt355.2 = 0 then (if bt357.2 = 0 then (if bt355.1 = bt357.1 then (if ((bt355.1 == 0) != (x5 == x31)) = true then (a_b.j2 k x4 x5 x31 bt355.1 x26 x27 x30 x31 true x354000) else ((b_e.f x354000 x5).bind fun t359 => ((b_B.f t359 x31).bind fun t360 => (a_b.j2 k x4 x5 x31 bt355.1 x26 x27 x30 x31 (t360 != (decide (bt355.1 ≤ 1))) x354000)))) else (a_b.j2 k x4 x5 x31 bt355.1 x26 x27 x30 x31 true x354000)) else (a_b.j2 k x4 x5 x31 bt355.1 x26 x27 x30 x31 true x354000)) else (a_b.j2 k x4 x5 x31 bt355.1 x26 x27 x30 x31 true x354000)))) else (a_b.l0 k x4 x26 (wrap64 (x27 + 1)) x354000)
def a_b.j2 : Nat → Int → Int → Int → Int → Int → Int → Int → Int → Bool → List (S56) → Option (Bool)
 | 0,_,_,_,_,_,_,_,_,_,_ => none
 | k + 1,x4,x5,x6,x7,x26,x27,x30,x31,x76,x354000 => if x76 = true then (some false) else (a_b.l2 k x4 x5 x6 x7 x26 x27 x30 x31 x4 0 x354000)
def a_b.l2 : Nat → Int → Int → Int → Int → Int → Int → Int → Int → Int → Int → List (S56) → Option (Bool)
 | 0,_,_,_,_,_,_,_,_,_,_,_ => none
 | k + 1,x4,x5,x6,x7,x26,x27,x30,x31,x77,x78,x354000 => if x78 < x77 then ((a_x.f k x354000 x5 x78).bind fun bt361 => ((a_x.f k x354000 x78 x6).bind fun bt363 => (if bt361.2 = 0 then (if bt363.2 = 0 then (if x7 > (mx bt361.1 bt363.1) then (some false) else (a_b.l2 k x4 x5 x6 x7 x26 x27 x30 x31 x77 (wrap64 (x78 + 1)) x354000)) else (some false)) else (some false)))) else (a_b.l1 k x4 x5 x26 x27 x30 (wrap64 (x31 + 1)) x354000)
end
def a_b.f (k : Nat) (l0_0 : List (S56)) : Option (Bool):=(a_t.f k).bind fun t349 => (if t349 = true then ((a_C.f l0_0).bind fun t350 => ((a_J.f t350).bind fun t354 => (if t354 = 0 then (a_b.l0 k (t350.length : Int) (t350.length : Int) 0 t350) else (some true)))) else (some false))
theorem a_b.c_c : ∀ k,(∀ y0 y1 y2 y3,LeO (a_b.l0 k y0 y1 y2 y3) (a_b.l0 (k + 1) y0 y1 y2 y3)) ∧ (∀ y0 y1 y2 y3 y4 y5 y6,LeO (a_b.l1 k y0 y1 y2 y3 y4 y5 y6) (a_b.l1 (k + 1) y0 y1 y2 y3 y4 y5 y6)) ∧ (∀ y0 y1 y2 y3 y4 y5 y6 y7 y8 y9,LeO (a_b.j2 k y0 y1 y2 y3 y4 y5 y6 y7 y8 y9) (a_b.j2 (k + 1) y0 y1 y2 y3 y4 y5 y6 y7 y8 y9)) ∧ (∀ y0 y1 y2 y3 y4 y5 y6 y7 y8 y9 y10,LeO (a_b.l2 k y0 y1 y2 y3 y4 y5 y6 y7 y8 y9 y10) (a_b.l2 (k + 1) y0 y1 y2 y3 y4 y5 y6 y7 y8 y9 y10))
 | 0 => ⟨fun _ _ _ _ r h => by simp [a_b.l0] at h,fun _ _ _ _ _ _ _ r h => by simp [a_b.l1] at h,fun _ _ _ _ _ _ _ _ _ _ r h => by simp [a_b.j2] at h,fun _ _ _ _ _ _ _ _ _ _ _ r h => by simp [a_b.l2] at h⟩
 | k + 1 => by
  obtain ⟨ih0,ih1,ih2,ih3⟩:=a_b.c_c k
  refine ⟨?_,?_,?_,?_⟩
  ·intro y0 y1 y2 y3
   unfold a_b.l0
   repeat' first
   | (with_reducible exact ih0 _ _ _ _)
   | (with_reducible exact ih1 _ _ _ _ _ _ _)
   | (with_reducible exact ih2 _ _ _ _ _ _ _ _ _ _)
   | (with_reducible exact ih3 _ _ _ _ _ _ _ _ _ _ _)
   | (with_reducible exact a_t.mono _)
   | (with_reducible exact a_x.mono _ _ _ _)
   | (with_reducible exact LeO.refl _)
   | (with_reducible exact LeO.none _)
   | (with_reducible refine LeO.ite ?_ ?_)
   | (with_reducible refine LeO.bind ?_ (fun _ => ?_))
   | exact ih0 _ _ _ _
   | exact ih1 _ _ _ _ _ _ _
   | exact ih2 _ _ _ _ _ _ _ _ _ _
   | exact ih3 _ _ _ _ _ _ _ _ _ _ _
   | exact a_t.mono _
   | exact a_x.mono _ _ _ _
   | exact LeO.none _
   | refine LeO.ite ?_ ?_
   | refine LeO.bind ?_ (fun _ => ?_)
  ·intro y0 y1 y2 y3 y4 y5 y6
   unfold a_b.l1
   repeat' first
   | (with_reducible exact ih0 _ _ _ _)
   | (with_reducible exact ih1 _ _ _ _ _ _ _)
   | (with_reducible exact ih2 _ _ _ _ _ _ _ _ _ _)
   | (with_reducible exact ih3 _ _ _ _ _ _ _ _ _ _ _)
   | (with_reducible exact a_t.mono _)
   | (with_reducible exact a_x.mono _ _ _ _)
   | (with_reducible exact LeO.refl _)
   | (with_reducible exact LeO.none _)
   | (with_reducible refine LeO.ite ?_ ?_)
   | (with_reducible refine LeO.bind ?_ (fun _ => ?_))
   | exact ih0 _ _ _ _
   | exact ih1 _ _ _ _ _ _ _
   | exact ih2 _ _ _ _ _ _ _ _ _ _
   | exact ih3 _ _ _ _ _ _ _ _ _ _ _
   | exact a_t.mono _
   | exact a_x.mono _ _ _ _
   | exact LeO.none _
   | refine LeO.ite ?_ ?_
   | refine LeO.bind ?_ (fun _ => ?_)
  ·intro y0 y1 y2 y3 y4 y5 y6 y7 y8 y9
   unfold a_b.j2
   repeat' first
   | (with_reducible exact ih0 _ _ _ _)
   | (with_reducible exact ih1 _ _ _ _ _ _ _)
   | (with_reducible exact ih2 _ _ _ _ _ _ _ _ _ _)
   | (with_reducible exact ih3 _ _ _ _ _ _ _ _ _ _ _)
   | (with_reducible exact a_t.mono _)
   | (with_reducible exact a_x.mono _ _ _ _)
   | (with_reducible exact LeO.refl _)
   | (with_reducible exact LeO.none _)
   | (with_reducible refine LeO.ite ?_ ?_)
   | (with_reducible refine LeO.bind ?_ (fun _ => ?_))
   | exact ih0 _ _ _ _
   | exact ih1 _ _ _ _ _ _ _
   | exact ih2 _ _ _ _ _ _ _ _ _ _
   | exact ih3 _ _ _ _ _ _ _ _ _ _ _
   | exact a_t.mono _
   | exact a_x.mono _ _ _ _
   | exact LeO.none _
   | refine LeO.ite ?_ ?_
   | refine LeO.bind ?_ (fun _ => ?_)
  ·intro y0 y1 y2 y3 y4 y5 y6 y7 y8 y9 y10
   unfold a_b.l2
   repeat' first
   | (with_reducible exact ih0 _ _ _ _)
   | (with_reducible exact ih1 _ _ _ _ _ _ _)
   | (with_reducible exact ih2 _ _ _ _ _ _ _ _ _ _)
   | (with_reducible exact ih3 _ _ _ _ _ _ _ _ _ _ _)
   | (with_reducible exact a_t.mono _)
   | (with_reducible exact a_x.mono _ _ _ _)
   | (with_reducible exact LeO.refl _)
   | (with_reducible exact LeO.none _)
   | (with_reducible refine LeO.ite ?_ ?_)
   | (with_reducible refine LeO.bind ?_ (fun _ => ?_))
   | exact ih0 _ _ _ _
   | exact ih1 _ _ _ _ _ _ _
   | exact ih2 _ _ _ _ _ _ _ _ _ _
   | exact ih3 _ _ _ _ _ _ _ _ _ _ _
   | exact a_t.mono _
   | exact a_x.mono _ _ _ _
   | exact LeO.none _
   | refine LeO.ite ?_ ?_
   | refine LeO.bind ?_ (fun _ => ?_)
theorem a_b.mono : ∀ a0 k,LeO (a_b.f k a0) (a_b.f (k + 1) a0):=by
 intro a0 k
 obtain ⟨ih0,ih1,ih2,ih3⟩:=a_b.c_c k
 unfold a_b.f
 repeat' first
  | (with_reducible exact ih0 _ _ _ _)
  | (with_reducible exact ih1 _ _ _ _ _ _ _)
  | (with_reducible exact ih2 _ _ _ _ _ _ _ _ _ _)
  | (with_reducible exact ih3 _ _ _ _ _ _ _ _ _ _ _)
  | (with_reducible exact a_t.mono _)
  | (with_reducible exact a_x.mono _ _ _ _)
  | (with_reducible exact LeO.refl _)
  | (with_reducible exact LeO.none _)
  | (with_reducible refine LeO.ite ?_ ?_)
  | (with_reducible refine LeO.bind ?_ (fun _ => ?_))
  | exact ih0 _ _ _ _
  | exact ih1 _ _ _ _ _ _ _
  | exact ih2 _ _ _ _ _ _ _ _ _ _
  | exact ih3 _ _ _ _ _ _ _ _ _ _ _
  | exact a_t.mono _
  | exact a_x.mono _ _ _ _
  | exact LeO.none _
  | refine LeO.ite ?_ ?_
  | refine LeO.bind ?_ (fun _ => ?_)
set_option maxHeartbeats 8000000 in
set_option maxRecDepth 100000 in
theorem a_b.calls (k : Nat) (A0_0 : Option Addr) (c0_0 : Nat) (l0_0 : List (S56)) (r : Bool) (w : World) (hr0_0 : Kd.C k56 w A0_0 l0_0.length l0_0) (hc0_0 : l0_0.length ≤ c0_0) (ht : b_p w) (h : a_b.f k l0_0 = some r) :
 Calls Tryd.prog 7 #[.agg #[.slice A0_0 l0_0.length c0_0]] w fun e w' => e = .returned (.bool r) ∧ Below w.heap.size w w':=by
 have hu24:=Tryd.underlying24
 have HTAB_:=a_a.mk ht
 clear ht
 have b_C:=a_a.mk hr0_0
 have b_I:=a_a.mk hc0_0
 clear hr0_0 hc0_0
 have HB:=a_a.mk (Below.refl w.heap.size w)
 have H : ((a_t.f k).bind fun t349 => (if t349 = true then ((a_C.f l0_0).bind fun t350 => ((a_J.f t350).bind fun t354 => (if t354 = 0 then (a_b.l0 k (t350.length : Int) (t350.length : Int) 0 t350) else (some true)))) else (some false))) = some r:=h
 clear h
 replace H:=Option.bind_eq_some_iff.mp H
 obtain ⟨t349,A20,H⟩:=H
 replace H : (if t349 = true then ((a_C.f l0_0).bind fun t350 => ((a_J.f t350).bind fun t354 => (if t354 = 0 then (a_b.l0 k (t350.length : Int) (t350.length : Int) 0 t350) else (some true)))) else (some false)) = some r:=H
 have A2:=a_a.mk A20
 clear A20
 by_cases c3 : t349 = true
 rotate_left
 ·replace c3:=Bool.eq_false_iff.mpr c3
  subst c3
  have H1 : (some false) = some r:=by rw [if_neg (show ¬ (false = true) by decide)] at H;exact H
  clear H
  have H:=H1
  clear H1
  obtain rfl:=Option.some.inj H
  go_enter Tryd.func7,Tryd.ntmps7
  go_wp2_with (first|((with_reducible refine a_B (N:=1) rfl ?_);(try (refine a_R (by rfl) ?_;dsimp only));refine a_A ?hg (N:=1) ?hd (cs:=#[.slice A0_0 l0_0.length c0_0]) (t:=24) ?hr ?_;(case hd => rfl);(case hg => rfl);(case hr => first|(go_simp;done)|(go_simp;rfl));intro b_0 hg w73 hbox hb;have a_S:=a_a.mk (hbox);have g_2:=a_a.mk ((by rw [hg];exact (a_g (lup_ HB.out)) : w.heap.size ≤ b_0));have a_9:=a_a.mk ((by rw [hg];exact (a_g (lup_ HB.out)) : w.heap.size ≤ b_0));replace HB:=a_a.mk (a_h (lup_ HB.out) hb);clear hb hbox hg)|((with_reducible refine a_s (f:=10) rfl ?_);refine a_I (some 16) rfl rfl Tryd.func10 (by kernel_rfl) rfl #[] rfl (by (try simp only [List.map_toArray,List.map_cons,List.map_nil]);first|done|rfl|(simp only [List.length_drop,List.length_take];rfl)) ?_;(with_reducible refine (a_t.calls k  false _ ?side1 A2.out).mono ?_);(case side1 => exact b_p.below HTAB_.out (by repeat (first|(with_reducible first|exact HB.out|apply a_e|apply a_c|apply a_f|refine a_d ?_ a_9.out)|exact HB.out)));rintro e w74 ⟨rfl,hb⟩;refine ⟨_,rfl,?_⟩;replace a_S:=a_a.mk (a_m (bup_ a_S.out) hb);replace HB:=a_a.mk (a_h (by repeat (first|(with_reducible first|exact HB.out|apply a_e|apply a_c|apply a_f|refine a_d ?_ a_9.out)|exact HB.out)) hb);(try clear hb);(try clear hb2);(try clear hk);(try clear hi)))
  go_ret
  exact ⟨by first|rfl|(simp [a_p,a_q] <;> rfl)|(simp [*, a_p,a_q] <;> rfl),by repeat (first|(with_reducible first|exact HB.out|apply a_e|apply a_c|apply a_f|refine a_d ?_ a_9.out)|exact HB.out)⟩
 subst c3
 have H1 : ((a_C.f l0_0).bind fun t350 => ((a_J.f t350).bind fun t354 => (if t354 = 0 then (a_b.l0 k (t350.length : Int) (t350.length : Int) 0 t350) else (some true)))) = some r:=by rw [if_pos rfl] at H;exact H
 clear H
 have H:=H1
 clear H1
 replace H:=Option.bind_eq_some_iff.mp H
 obtain ⟨t350,A40,H⟩:=H
 replace H : ((a_J.f t350).bind fun t354 => (if t354 = 0 then (a_b.l0 k (t350.length : Int) (t350.length : Int) 0 t350) else (some true))) = some r:=H
 have A4:=a_a.mk A40
 clear A40
 replace H:=Option.bind_eq_some_iff.mp H
 obtain ⟨t354,A50,H⟩:=H
 replace H : (if t354 = 0 then (a_b.l0 k (t350.length : Int) (t350.length : Int) 0 t350) else (some true)) = some r:=H
 have A5:=a_a.mk A50
 clear A50
 by_cases c6 : t354 = 0
 rotate_left
 ·rw [if_neg c6] at H
  have c6b0 : (t354 == 0) = false:=beq_eq_false_iff_ne.mpr c6
  have c6b1 : (t354 != 0) = true:=bne_iff_ne.mpr c6
  obtain rfl:=Option.some.inj H
  go_enter Tryd.func7,Tryd.ntmps7
  go_wp2_with (first|((with_reducible refine a_B (N:=1) rfl ?_);(try (refine a_R (by rfl) ?_;dsimp only));refine a_A ?hg (N:=1) ?hd (cs:=#[.slice A0_0 l0_0.length c0_0]) (t:=24) ?hr ?_;(case hd => rfl);(case hg => rfl);(case hr => first|(go_simp;done)|(go_simp;rfl));intro b_0 hg w64 hbox hb;have a_S:=a_a.mk (hbox);have g_2:=a_a.mk ((by rw [hg];exact (a_g (lup_ HB.out)) : w.heap.size ≤ b_0));have a_9:=a_a.mk ((by rw [hg];exact (a_g (lup_ HB.out)) : w.heap.size ≤ b_0));replace HB:=a_a.mk (a_h (lup_ HB.out) hb);clear hb hbox hg)|((with_reducible refine a_s (f:=10) rfl ?_);refine a_I (some 16) rfl rfl Tryd.func10 (by kernel_rfl) rfl #[] rfl (by (try simp only [List.map_toArray,List.map_cons,List.map_nil]);first|done|rfl|(simp only [List.length_drop,List.length_take];rfl)) ?_;(with_reducible refine (a_t.calls k  true _ ?side1 A2.out).mono ?_);(case side1 => exact b_p.below HTAB_.out (by repeat (first|(with_reducible first|exact HB.out|apply a_e|apply a_c|apply a_f|refine a_d ?_ a_9.out)|exact HB.out)));rintro e w65 ⟨rfl,hb⟩;refine ⟨_,rfl,?_⟩;replace a_S:=a_a.mk (a_m (bup_ a_S.out) hb);replace HB:=a_a.mk (a_h (by repeat (first|(with_reducible first|exact HB.out|apply a_e|apply a_c|apply a_f|refine a_d ?_ a_9.out)|exact HB.out)) hb);(try clear hb);(try clear hb2);(try clear hk);(try clear hi);have i_o : w65.cell? ⟨b_0,0,none⟩ = some (.slice A0_0 l0_0.length c0_0):=(a_l a_S.out 0).trans rfl;have i_R:=a_i a_S.out 0)|((with_reducible refine a_s (f:=11) rfl ?_);refine a_I (some 19) rfl rfl Tryd.func11 (by kernel_rfl) rfl #[.agg #[.slice A0_0 l0_0.length c0_0]] rfl (by (try simp only [List.map_toArray,List.map_cons,List.map_nil]);first|done|rfl|(simp only [List.length_drop,List.length_take];rfl)) ?_;(with_reducible refine (a_C.calls _ _ l0_0 t350 _ ?side1 ?side2 A4.out).mono ?_);(case side1 => repeat (first|exact (Kd.a_G b_C.out HB.out)|(with_reducible refine Kd.a_L ?_ _)|(with_reducible refine Kd.a_M ?_ _)|(with_reducible refine Kd.a_U ?_)));(case side2 => exact b_I.out);rintro e w67 ⟨v351,rfl,ho0,hb⟩;refine ⟨_,rfl,?_⟩;have c_i:=a_a.mk (Kd.b_j ho0 (a_g (by repeat (first|(with_reducible first|exact HB.out|apply a_e|apply a_c|apply a_f|refine a_d ?_ a_9.out)|exact HB.out))));replace a_S:=a_a.mk (a_m (bup_ a_S.out) hb);replace HB:=a_a.mk (a_h (by repeat (first|(with_reducible first|exact HB.out|apply a_e|apply a_c|apply a_f|refine a_d ?_ a_9.out)|exact HB.out)) hb);(try clear hb);(try clear hb2);(try clear hk);(try clear hi);(try clear ho0))|((with_reducible refine a_B (N:=3) rfl ?_);(try (refine a_R (by rfl) ?_;dsimp only));refine a_A ?hg (N:=3) ?hd (cs:=#[.slice none 0 0]) (t:=24) ?hr ?_;(case hd => rfl);(case hg => rfl);(case hr => first|(go_simp;done)|(go_simp;rfl));intro b_E hg w68 hbox hb;have a_N:=a_a.mk (hbox);have h_C:=a_a.mk ((by rw [hg];exact (a_g (by repeat (first|(with_reducible first|exact HB.out|apply a_e|apply a_c|apply a_f|refine a_d ?_ a_9.out)|exact HB.out))) : w.heap.size ≤ b_E));have b_F:=a_a.mk ((by rw [hg];exact (a_g (by repeat (first|(with_reducible first|exact HB.out|apply a_e|apply a_c|apply a_f|refine a_d ?_ a_9.out)|exact HB.out))) : w.heap.size ≤ b_E));have b_x:=a_a.mk ((by rw [hg];exact Nat.ne_of_lt (a_T (bup_ a_S.out)) : b_0 ≠ b_E));have b_K:=a_a.mk ((by rw [hg];exact Nat.ne_of_gt (a_T (bup_ a_S.out)) : b_E ≠ b_0));replace c_i:=a_a.mk (Kd.a_D (rup_ c_i.out) hb);replace a_S:=a_a.mk (a_m (bup_ a_S.out) hb);replace HB:=a_a.mk (a_h (by repeat (first|(with_reducible first|exact HB.out|apply a_e|apply a_c|apply a_f|refine a_d ?_ a_9.out)|exact HB.out)) hb);clear hb hbox hg;obtain ⟨Ao69,co69,eo69⟩:=Kd.b_D c_i.out;subst eo69;have j_D:=b_K.out;have j_1:=b_x.out;have i_p : w68.cell? ⟨b_E,0,none⟩ = some (.slice none 0 0):=(a_l a_N.out 0).trans rfl;have i_S:=a_i a_N.out 0)|((with_reducible refine a_s (f:=28) rfl ?_);refine a_I (some 21) rfl rfl Tryd.func28 (by kernel_rfl) rfl #[.agg #[.slice Ao69 t350.length co69]] rfl (by (try simp only [List.map_toArray,List.map_cons,List.map_nil]);first|done|rfl|(simp only [List.length_drop,List.length_take];rfl)) ?_;(with_reducible refine (a_J.calls _ _ t350 t354 _ ?side1 ?side2 A5.out).mono ?_);(case side1 => refine (Kd.a_v (e:=56) (base:=w.heap.size) (ok:=fun k_ => True) (n:=t350.length) (c:=co69) ?_).2.2;exact (by (with_reducible repeat (first|apply Kd.a_P|apply Kd.a_Q|apply Kd.a_X));exact (Kd.b_n (Kd.b_X (p:=⟨b_E,0,none⟩) (Kd.b_c c_i.out a_N.out (by decide)) (fun _ hk => hk.2) (.slice Ao69 t350.length co69)) (fun _ h_ => h_.1))));(case side2 => exact (Kd.a_v c_i.out).2.1);rintro e w72 ⟨rfl,hb⟩;refine ⟨_,rfl,?_⟩;replace c_i:=a_a.mk (Kd.a_D (by (with_reducible repeat (first|apply Kd.a_P|apply Kd.a_Q|apply Kd.a_X));exact (Kd.b_n (Kd.b_X (p:=⟨b_E,0,none⟩) (Kd.b_c c_i.out a_N.out (by decide)) (fun _ hk => hk.2) (.slice Ao69 t350.length co69)) (fun _ h_ => h_.1))) hb);replace a_S:=a_a.mk (a_m (g:=b_0) (o:=.cells #[.slice A0_0 l0_0.length c0_0] 24 (0,0)) (by (with_reducible repeat (first|refine a_k ?_ _|refine a_n ?_|refine a_j ?_ _));refine b_h ?_ b_x.out _;(with_reducible repeat (first|refine a_k ?_ _|refine a_n ?_|refine a_j ?_ _));exact a_S.out) hb);replace a_N:=a_a.mk (a_m (g:=b_E) (o:=.cells #[.slice Ao69 t350.length co69] 24 (0,0)) (by (with_reducible repeat (first|refine a_k ?_ _|refine a_n ?_|refine a_j ?_ _));refine a_V (cs:=#[.slice none 0 0]) ?_ 0 _ rfl;(with_reducible repeat (first|refine a_k ?_ _|refine a_n ?_|refine a_j ?_ _));exact a_N.out) hb);replace HB:=a_a.mk (a_h (by repeat (first|(with_reducible first|exact HB.out|apply a_e|apply a_c|apply a_f|refine a_d ?_ a_9.out|refine a_d ?_ b_F.out)|exact HB.out)) hb);(try clear hb);(try clear hb2);(try clear hk);(try clear hi)))
  go_ret
  exact ⟨by first|rfl|(simp [a_p,a_q] <;> rfl)|(simp [*, a_p,a_q] <;> rfl),by repeat (first|(with_reducible first|exact HB.out|apply a_e|apply a_c|apply a_f|refine a_d ?_ a_9.out|refine a_d ?_ b_F.out)|exact HB.out)⟩
 rw [if_pos c6] at H
 have c6b0 : (t354 == 0) = true:=beq_iff_eq.mpr c6
 have c6b1 : (t354 != 0) = false:=bne_eq_false_iff_eq.mpr c6
 clear c6
 have H':=a_a.mk H
 clear H
 go_enter Tryd.func7,Tryd.ntmps7
 go_wp2_with (first|((with_reducible refine a_B (N:=1) rfl ?_);(try (refine a_R (by rfl) ?_;dsimp only));refine a_A ?hg (N:=1) ?hd (cs:=#[.slice A0_0 l0_0.length c0_0]) (t:=24) ?hr ?_;(case hd => rfl);(case hg => rfl);(case hr => first|(go_simp;done)|(go_simp;rfl));intro b_0 hg w7 hbox hb;have a_S:=a_a.mk (hbox);have g_2:=a_a.mk ((by rw [hg];exact (a_g (lup_ HB.out)) : w.heap.size ≤ b_0));have a_9:=a_a.mk ((by rw [hg];exact (a_g (lup_ HB.out)) : w.heap.size ≤ b_0));replace HB:=a_a.mk (a_h (lup_ HB.out) hb);clear hb hbox hg)|((with_reducible refine a_s (f:=10) rfl ?_);refine a_I (some 16) rfl rfl Tryd.func10 (by kernel_rfl) rfl #[] rfl (by (try simp only [List.map_toArray,List.map_cons,List.map_nil]);first|done|rfl|(simp only [List.length_drop,List.length_take];rfl)) ?_;(with_reducible refine (a_t.calls k  true _ ?side1 A2.out).mono ?_);(case side1 => exact b_p.below HTAB_.out (by repeat (first|(with_reducible first|exact HB.out|apply a_e|apply a_c|apply a_f|refine a_d ?_ a_9.out)|exact HB.out)));rintro e w8 ⟨rfl,hb⟩;refine ⟨_,rfl,?_⟩;replace a_S:=a_a.mk (a_m (bup_ a_S.out) hb);replace HB:=a_a.mk (a_h (by repeat (first|(with_reducible first|exact HB.out|apply a_e|apply a_c|apply a_f|refine a_d ?_ a_9.out)|exact HB.out)) hb);(try clear hb);(try clear hb2);(try clear hk);(try clear hi);have d_n : w8.cell? ⟨b_0,0,none⟩ = some (.slice A0_0 l0_0.length c0_0):=(a_l a_S.out 0).trans rfl;have d_o:=a_i a_S.out 0)|((with_reducible refine a_s (f:=11) rfl ?_);refine a_I (some 19) rfl rfl Tryd.func11 (by kernel_rfl) rfl #[.agg #[.slice A0_0 l0_0.length c0_0]] rfl (by (try simp only [List.map_toArray,List.map_cons,List.map_nil]);first|done|rfl|(simp only [List.length_drop,List.length_take];rfl)) ?_;(with_reducible refine (a_C.calls _ _ l0_0 t350 _ ?side1 ?side2 A4.out).mono ?_);(case side1 => repeat (first|exact (Kd.a_G b_C.out HB.out)|(with_reducible refine Kd.a_L ?_ _)|(with_reducible refine Kd.a_M ?_ _)|(with_reducible refine Kd.a_U ?_)));(case side2 => exact b_I.out);rintro e w10 ⟨v351,rfl,ho0,hb⟩;refine ⟨_,rfl,?_⟩;have c_i:=a_a.mk (Kd.b_j ho0 (a_g (by repeat (first|(with_reducible first|exact HB.out|apply a_e|apply a_c|apply a_f|refine a_d ?_ a_9.out)|exact HB.out))));replace a_S:=a_a.mk (a_m (bup_ a_S.out) hb);replace HB:=a_a.mk (a_h (by repeat (first|(with_reducible first|exact HB.out|apply a_e|apply a_c|apply a_f|refine a_d ?_ a_9.out)|exact HB.out)) hb);(try clear hb);(try clear hb2);(try clear hk);(try clear hi);(try clear ho0))|((with_reducible refine a_B (N:=3) rfl ?_);(try (refine a_R (by rfl) ?_;dsimp only));refine a_A ?hg (N:=3) ?hd (cs:=#[.slice none 0 0]) (t:=24) ?hr ?_;(case hd => rfl);(case hg => rfl);(case hr => first|(go_simp;done)|(go_simp;rfl));intro b_E hg w11 hbox hb;have a_N:=a_a.mk (hbox);have h_C:=a_a.mk ((by rw [hg];exact (a_g (by repeat (first|(with_reducible first|exact HB.out|apply a_e|apply a_c|apply a_f|refine a_d ?_ a_9.out)|exact HB.out))) : w.heap.size ≤ b_E));have b_F:=a_a.mk ((by rw [hg];exact (a_g (by repeat (first|(with_reducible first|exact HB.out|apply a_e|apply a_c|apply a_f|refine a_d ?_ a_9.out)|exact HB.out))) : w.heap.size ≤ b_E));have b_x:=a_a.mk ((by rw [hg];exact Nat.ne_of_lt (a_T (bup_ a_S.out)) : b_0 ≠ b_E));have b_K:=a_a.mk ((by rw [hg];exact Nat.ne_of_gt (a_T (bup_ a_S.out)) : b_E ≠ b_0));replace c_i:=a_a.mk (Kd.a_D (rup_ c_i.out) hb);replace a_S:=a_a.mk (a_m (bup_ a_S.out) hb);replace HB:=a_a.mk (a_h (by repeat (first|(with_reducible first|exact HB.out|apply a_e|apply a_c|apply a_f|refine a_d ?_ a_9.out)|exact HB.out)) hb);clear hb hbox hg;obtain ⟨Ao12,co12,eo12⟩:=Kd.b_D c_i.out;subst eo12;have i_T:=b_K.out;have i_U:=b_x.out;have c_q : w11.cell? ⟨b_E,0,none⟩ = some (.slice none 0 0):=(a_l a_N.out 0).trans rfl;have c_s:=a_i a_N.out 0)|((with_reducible refine a_s (f:=28) rfl ?_);refine a_I (some 21) rfl rfl Tryd.func28 (by kernel_rfl) rfl #[.agg #[.slice Ao12 t350.length co12]] rfl (by (try simp only [List.map_toArray,List.map_cons,List.map_nil]);first|done|rfl|(simp only [List.length_drop,List.length_take];rfl)) ?_;(with_reducible refine (a_J.calls _ _ t350 t354 _ ?side1 ?side2 A5.out).mono ?_);(case side1 => refine (Kd.a_v (e:=56) (base:=w.heap.size) (ok:=fun k_ => True) (n:=t350.length) (c:=co12) ?_).2.2;exact (by (with_reducible repeat (first|apply Kd.a_P|apply Kd.a_Q|apply Kd.a_X));exact (Kd.b_n (Kd.b_X (p:=⟨b_E,0,none⟩) (Kd.b_c c_i.out a_N.out (by decide)) (fun _ hk => hk.2) (.slice Ao12 t350.length co12)) (fun _ h_ => h_.1))));(case side2 => exact (Kd.a_v c_i.out).2.1);rintro e w15 ⟨rfl,hb⟩;refine ⟨_,rfl,?_⟩;replace c_i:=a_a.mk (Kd.a_D (by (with_reducible repeat (first|apply Kd.a_P|apply Kd.a_Q|apply Kd.a_X));exact (Kd.b_n (Kd.b_X (p:=⟨b_E,0,none⟩) (Kd.b_c c_i.out a_N.out (by decide)) (fun _ hk => hk.2) (.slice Ao12 t350.length co12)) (fun _ h_ => h_.1))) hb);replace a_S:=a_a.mk (a_m (g:=b_0) (o:=.cells #[.slice A0_0 l0_0.length c0_0] 24 (0,0)) (by (with_reducible repeat (first|refine a_k ?_ _|refine a_n ?_|refine a_j ?_ _));refine b_h ?_ b_x.out _;(with_reducible repeat (first|refine a_k ?_ _|refine a_n ?_|refine a_j ?_ _));exact a_S.out) hb);replace a_N:=a_a.mk (a_m (g:=b_E) (o:=.cells #[.slice Ao12 t350.length co12] 24 (0,0)) (by (with_reducible repeat (first|refine a_k ?_ _|refine a_n ?_|refine a_j ?_ _));refine a_V (cs:=#[.slice none 0 0]) ?_ 0 _ rfl;(with_reducible repeat (first|refine a_k ?_ _|refine a_n ?_|refine a_j ?_ _));exact a_N.out) hb);replace HB:=a_a.mk (a_h (by repeat (first|(with_reducible first|exact HB.out|apply a_e|apply a_c|apply a_f|refine a_d ?_ a_9.out|refine a_d ?_ b_F.out)|exact HB.out)) hb);(try clear hb);(try clear hb2);(try clear hk);(try clear hi);have c_r : w15.cell? ⟨b_E,0,none⟩ = some (.slice Ao12 t350.length co12):=(a_l a_N.out 0).trans rfl;have c_t:=a_i a_N.out 0))
 go_loopg [27] k (fun kq v27 w' => ∃ (x27_1 : Int),v27 = .int .i64 x27_1 ∧ a_a (a_b.l0 kq (t350.length : Int) (t350.length : Int) x27_1 t350 = some r) ∧ a_a (kq ≤ k) ∧ a_a (Kd.R k56 56 w' w.heap.size (fun _ => True) (.slice Ao12 t350.length co12) t350) ∧ a_a (w'.heap[b_0]? = some (.cells #[(.slice A0_0 l0_0.length c0_0)] 24 (0,0))) ∧ a_a (w'.heap[b_E]? = some (.cells #[(.slice Ao12 t350.length co12)] 24 (0,0))) ∧ a_a (Below w.heap.size w w'))
 case atStart => exact ⟨(0),(by first|rfl|(simp;done)|(simp [*];done)),H',⟨Nat.le_refl _⟩,⟨by (with_reducible repeat (first|apply Kd.a_P|apply Kd.a_Q|apply Kd.a_X));exact c_i.out⟩,⟨by (with_reducible repeat (first|refine a_k ?_ _|refine a_n ?_|refine a_j ?_ _));exact a_S.out⟩,⟨by (with_reducible repeat (first|refine a_k ?_ _|refine a_n ?_|refine a_j ?_ _));exact a_N.out⟩,⟨by repeat (first|(with_reducible first|exact HB.out|apply a_e|apply a_c|apply a_f|refine a_d ?_ a_9.out|refine a_d ?_ b_F.out)|exact HB.out)⟩⟩
 case round =>
  clear H'
  try clear c1
  try clear c2
  try clear p2
  try clear c3
  try clear c6
  try clear c6b0
  try clear c6b1
  try clear c7
  try clear c10
  try clear c11
  try clear c13
  try clear c_q
  try clear c_r
  try clear d_n
  try clear c_s
  try clear c_t
  try clear d_o
  obtain ⟨x27_1,rfl,HA,HK1,a_u,a_S,a_N,HB⟩:=hrel
  cases gk with
  | zero => exact absurd HA.out (by simp [a_b.l0])
  | succ k1 =>
   have H:=HA.out
   clear HA
   simp only [a_b.l0] at H
   by_cases c17 : x27_1 < (t350.length : Int)
   rotate_left
   ·rw [if_neg c17] at H
    have c17b0 : decide (x27_1 < (t350.length : Int)) = false:=decide_eq_false c17
    clear c17
    obtain rfl:=Option.some.inj H
    go_wp2
    go_ret
    exact ⟨by first|rfl|(simp [a_p,a_q] <;> rfl)|(simp [*, a_p,a_q] <;> rfl),by repeat (first|(with_reducible first|exact HB.out|apply a_e|apply a_c|apply a_f|refine a_d ?_ a_9.out|refine a_d ?_ b_F.out)|exact HB.out)⟩
   rw [if_pos c17] at H
   have c17b0 : decide (x27_1 < (t350.length : Int)) = true:=decide_eq_true c17
   clear c17
   have H':=a_a.mk H
   clear H
   go_wp2
   go_loopg [31] k1 (fun kq v31 w' => ∃ (x31_2 : Int),v31 = .int .i64 x31_2 ∧ a_a (a_b.l1 kq (t350.length : Int) x27_1 (t350.length : Int) x27_1 (t350.length : Int) x31_2 t350 = some r) ∧ a_a (kq ≤ k1) ∧ a_a (Kd.R k56 56 w' w.heap.size (fun _ => True) (.slice Ao12 t350.length co12) t350) ∧ a_a (w'.heap[b_0]? = some (.cells #[(.slice A0_0 l0_0.length c0_0)] 24 (0,0))) ∧ a_a (w'.heap[b_E]? = some (.cells #[(.slice Ao12 t350.length co12)] 24 (0,0))) ∧ a_a (Below w.heap.size w w'))
   case atStart => exact ⟨(0),(by first|rfl|(simp;done)|(simp [*];done)),H',⟨Nat.le_refl _⟩,⟨by (with_reducible repeat (first|apply Kd.a_P|apply Kd.a_Q|apply Kd.a_X));exact a_u.out⟩,⟨by (with_reducible repeat (first|refine a_k ?_ _|refine a_n ?_|refine a_j ?_ _));exact a_S.out⟩,⟨by (with_reducible repeat (first|refine a_k ?_ _|refine a_n ?_|refine a_j ?_ _));exact a_N.out⟩,⟨by repeat (first|(with_reducible first|exact HB.out|apply a_e|apply a_c|apply a_f|refine a_d ?_ a_9.out|refine a_d ?_ b_F.out)|exact HB.out)⟩⟩
   case round =>
    clear H'
    try clear c1
    try clear c2
    try clear p2
    try clear c3
    try clear c6
    try clear c6b0
    try clear c6b1
    try clear c7
    try clear c10
    try clear c11
    try clear c13
    try clear c17
    try clear c17b0
    try clear c_q
    try clear c_r
    try clear d_n
    try clear c_s
    try clear c_t
    try clear d_o
    try clear p2
    obtain ⟨x31_2,rfl,HA,HK2,a_u,a_S,a_N,HB⟩:=hrel
    cases gk with
    | zero => exact absurd HA.out (by simp [a_b.l1])
    | succ k2 =>
     have H:=HA.out
     clear HA
     simp only [a_b.l1] at H
     by_cases c18 : x31_2 < (t350.length : Int)
     rotate_left
     ·rw [if_neg c18] at H
      have c18b0 : decide (x31_2 < (t350.length : Int)) = false:=decide_eq_false c18
      clear c18
      have H':=a_a.mk H
      clear H
      go_wp2
      go_roundg k2
      case measure => have:=HK1.out;have:=HK2.out;omega
      case rel => exact ⟨(wrap64 (x27_1 + 1)),(by first|rfl|(simp;done)|(simp [*];done)),H',⟨by have:=HK1.out;have:=HK2.out;omega⟩,⟨by (with_reducible repeat (first|apply Kd.a_P|apply Kd.a_Q|apply Kd.a_X));exact a_u.out⟩,⟨by (with_reducible repeat (first|refine a_k ?_ _|refine a_n ?_|refine a_j ?_ _));exact a_S.out⟩,⟨by (with_reducible repeat (first|refine a_k ?_ _|refine a_n ?_|refine a_j ?_ _));exact a_N.out⟩,⟨by repeat (first|(with_reducible first|exact HB.out|apply a_e|apply a_c|apply a_f|refine a_d ?_ a_9.out|refine a_d ?_ b_F.out)|exact HB.out)⟩⟩
     rw [if_pos c18] at H
     have c18b0 : decide (x31_2 < (t350.length : Int)) = true:=decide_eq_true c18
     clear c18
     replace H:=Option.bind_eq_some_iff.mp H
     obtain ⟨⟨t355,t356⟩,A190,H⟩:=H
     replace H : ((a_x.f k2 t350 x31_2 x27_1).bind fun bt357 => (if t356 = 0 then (if bt357.2 = 0 then (if t355 = bt357.1 then (if ((t355 == 0) != (x27_1 == x31_2)) = true then (a_b.j2 k2 (t350.length : Int) x27_1 x31_2 t355 (t350.length : Int) x27_1 (t350.length : Int) x31_2 true t350) else ((b_e.f t350 x27_1).bind fun t359 => ((b_B.f t359 x31_2).bind fun t360 => (a_b.j2 k2 (t350.length : Int) x27_1 x31_2 t355 (t350.length : Int) x27_1 (t350.length : Int) x31_2 (t360 != (decide (t355 ≤ 1))) t350)))) else (a_b.j2 k2 (t350.length : Int) x27_1 x31_2 t355 (t350.length : Int) x27_1 (t350.length : Int) x31_2 true t350)) else (a_b.j2 k2 (t350.length : Int) x27_1 x31_2 t355 (t350.length : Int) x27_1 (t350.length : Int) x31_2 true t350)) else (a_b.j2 k2 (t350.length : Int) x27_1 x31_2 t355 (t350.length : Int) x27_1 (t350.length : Int) x31_2 true t350))) = some r:=H
     have A19:=a_a.mk A190
     clear A190
     replace H:=Option.bind_eq_some_iff.mp H
     obtain ⟨⟨t357,t358⟩,A200,H⟩:=H
     replace H : (if t356 = 0 then (if t358 = 0 then (if t355 = t357 then (if ((t355 == 0) != (x27_1 == x31_2)) = true then (a_b.j2 k2 (t350.length : Int) x27_1 x31_2 t355 (t350.length : Int) x27_1 (t350.length : Int) x31_2 true t350) else ((b_e.f t350 x27_1).bind fun t359 => ((b_B.f t359 x31_2).bind fun t360 => (a_b.j2 k2 (t350.length : Int) x27_1 x31_2 t355 (t350.length : Int) x27_1 (t350.length : Int) x31_2 (t360 != (decide (t355 ≤ 1))) t350)))) else (a_b.j2 k2 (t350.length : Int) x27_1 x31_2 t355 (t350.length : Int) x27_1 (t350.length : Int) x31_2 true t350)) else (a_b.j2 k2 (t350.length : Int) x27_1 x31_2 t355 (t350.length : Int) x27_1 (t350.length : Int) x31_2 true t350)) else (a_b.j2 k2 (t350.length : Int) x27_1 x31_2 t355 (t350.length : Int) x27_1 (t350.length : Int) x31_2 true t350)) = some r:=H
     have A20:=a_a.mk A200
     clear A200
     have HC21:=a_a.mk H
     clear H
     have j_k:=b_K.out
     have j_I:=b_x.out
     have e_q : wr.cell? ⟨b_E,0,none⟩ = some (.slice Ao12 t350.length co12):=(a_l a_N.out 0).trans rfl
     have e_s:=a_i a_N.out 0
     go_upto_region 15 with (first|((with_reducible refine a_s (f:=17) rfl ?_);refine a_I (some 38) rfl rfl Tryd.func17 (by kernel_rfl) rfl #[.agg #[.slice Ao12 t350.length co12],.int .i64 x27_1,.int .i64 x31_2] rfl (by (try simp only [List.map_toArray,List.map_cons,List.map_nil]);first|done|rfl|(simp only [List.length_drop,List.length_take];rfl)) ?_;(with_reducible refine (a_x.calls k2 _ _ t350 x27_1 x31_2 t355 t356 _ ?side1 ?side2 A19.out).mono ?_);(case side1 => repeat (first|exact (Kd.a_v a_u.out).2.2|(with_reducible refine Kd.a_L ?_ _)|(with_reducible refine Kd.a_M ?_ _)|(with_reducible refine Kd.a_U ?_)));(case side2 => exact (Kd.a_v a_u.out).2.1);rintro e w24 ⟨rfl,hb⟩;refine ⟨_,rfl,?_⟩;replace a_u:=a_a.mk (Kd.a_D (rup_ a_u.out) hb);replace a_S:=a_a.mk (a_m (bup_ a_S.out) hb);replace a_N:=a_a.mk (a_m (bup_ a_N.out) hb);replace HB:=a_a.mk (a_h (by repeat (first|(with_reducible first|exact HB.out|apply a_e|apply a_c|apply a_f|refine a_d ?_ a_9.out|refine a_d ?_ b_F.out)|exact HB.out)) hb);(try clear hb);(try clear hb2);(try clear hk);(try clear hi);have d_G : w24.cell? ⟨b_E,0,none⟩ = some (.slice Ao12 t350.length co12):=(a_l a_N.out 0).trans rfl;have d_H:=a_i a_N.out 0)|((with_reducible refine a_s (f:=17) rfl ?_);refine a_I (some 45) rfl rfl Tryd.func17 (by kernel_rfl) rfl #[.agg #[.slice Ao12 t350.length co12],.int .i64 x31_2,.int .i64 x27_1] rfl (by (try simp only [List.map_toArray,List.map_cons,List.map_nil]);first|done|rfl|(simp only [List.length_drop,List.length_take];rfl)) ?_;(with_reducible refine (a_x.calls k2 _ _ t350 x31_2 x27_1 t357 t358 _ ?side1 ?side2 A20.out).mono ?_);(case side1 => repeat (first|exact (Kd.a_v a_u.out).2.2|(with_reducible refine Kd.a_L ?_ _)|(with_reducible refine Kd.a_M ?_ _)|(with_reducible refine Kd.a_U ?_)));(case side2 => exact (Kd.a_v a_u.out).2.1);rintro e w26 ⟨rfl,hb⟩;refine ⟨_,rfl,?_⟩;replace a_u:=a_a.mk (Kd.a_D (rup_ a_u.out) hb);replace a_S:=a_a.mk (a_m (bup_ a_S.out) hb);replace a_N:=a_a.mk (a_m (bup_ a_N.out) hb);replace HB:=a_a.mk (a_h (by repeat (first|(with_reducible first|exact HB.out|apply a_e|apply a_c|apply a_f|refine a_d ?_ a_9.out|refine a_d ?_ b_F.out)|exact HB.out)) hb);(try clear hb);(try clear hb2);(try clear hk);(try clear hi)))
     (try simp only [Act.put,sa_,sb_,sc_])
     go_cut [76] (fun v76 wc => ∃ (kq : Nat) (x76_20 : Bool),v76 = .bool x76_20 ∧ a_a (a_b.j2 kq (t350.length : Int) x27_1 x31_2 t355 (t350.length : Int) x27_1 (t350.length : Int) x31_2 x76_20 t350 = some r) ∧ a_a (kq ≤ k2) ∧ a_a (Kd.R k56 56 wc w.heap.size (fun _ => True) (.slice Ao12 t350.length co12) t350) ∧ a_a (wc.heap[b_0]? = some (.cells #[(.slice A0_0 l0_0.length c0_0)] 24 (0,0))) ∧ a_a (wc.heap[b_E]? = some (.cells #[(.slice Ao12 t350.length co12)] 24 (0,0))) ∧ a_a (Below w.heap.size w wc))
     case first =>
      have H:=HC21.out
      clear HC21
      by_cases c27 : t356 = 0
      rotate_left
      ·rw [if_neg c27] at H
       have c27b0 : (t356 == 0) = false:=beq_eq_false_iff_ne.mpr c27
       have c27b1 : (t356 != 0) = true:=bne_iff_ne.mpr c27
       (first|rw [c27b0]|(simp only [b_5,b_4];rw [c27b0])|skip)
       have H':=a_a.mk H
       clear H
       go_wp2
       go_meet
       case rel => exact ⟨_,(true),(by first|rfl|(simp;done)|(simp [*];done)),H',⟨by have:=HK1.out;have:=HK2.out;first|omega|exact Nat.le_refl _⟩,⟨by (with_reducible repeat (first|apply Kd.a_P|apply Kd.a_Q|apply Kd.a_X));exact a_u.out⟩,⟨by (with_reducible repeat (first|refine a_k ?_ _|refine a_n ?_|refine a_j ?_ _));exact a_S.out⟩,⟨by (with_reducible repeat (first|refine a_k ?_ _|refine a_n ?_|refine a_j ?_ _));exact a_N.out⟩,⟨by repeat (first|(with_reducible first|exact HB.out|apply a_e|apply a_c|apply a_f|refine a_d ?_ a_9.out|refine a_d ?_ b_F.out)|exact HB.out)⟩⟩
      rw [if_pos c27] at H
      have c27b0 : (t356 == 0) = true:=beq_iff_eq.mpr c27
      have c27b1 : (t356 != 0) = false:=bne_eq_false_iff_eq.mpr c27
      clear c27
      (first|rw [c27b0]|(simp only [b_5,b_4];rw [c27b0])|skip)
      by_cases c28 : t358 = 0
      rotate_left
      ·rw [if_neg c28] at H
       have c28b0 : (t358 == 0) = false:=beq_eq_false_iff_ne.mpr c28
       have c28b1 : (t358 != 0) = true:=bne_iff_ne.mpr c28
       have H':=a_a.mk H
       clear H
       go_wp2
       go_meet
       case rel => exact ⟨_,(true),(by first|rfl|(simp;done)|(simp [*];done)),H',⟨by have:=HK1.out;have:=HK2.out;first|omega|exact Nat.le_refl _⟩,⟨by (with_reducible repeat (first|apply Kd.a_P|apply Kd.a_Q|apply Kd.a_X));exact a_u.out⟩,⟨by (with_reducible repeat (first|refine a_k ?_ _|refine a_n ?_|refine a_j ?_ _));exact a_S.out⟩,⟨by (with_reducible repeat (first|refine a_k ?_ _|refine a_n ?_|refine a_j ?_ _));exact a_N.out⟩,⟨by repeat (first|(with_reducible first|exact HB.out|apply a_e|apply a_c|apply a_f|refine a_d ?_ a_9.out|refine a_d ?_ b_F.out)|exact HB.out)⟩⟩
      rw [if_pos c28] at H
      have c28b0 : (t358 == 0) = true:=beq_iff_eq.mpr c28
      have c28b1 : (t358 != 0) = false:=bne_eq_false_iff_eq.mpr c28
      clear c28
      by_cases c29 : t355 = t357
      rotate_left
      ·rw [if_neg c29] at H
       have c29b0 : (t355 == t357) = false:=beq_eq_false_iff_ne.mpr c29
       have c29b1 : (t355 != t357) = true:=bne_iff_ne.mpr c29
       have H':=a_a.mk H
       clear H
       go_wp2
       go_meet
       case rel => exact ⟨_,(true),(by first|rfl|(simp;done)|(simp [*];done)),H',⟨by have:=HK1.out;have:=HK2.out;first|omega|exact Nat.le_refl _⟩,⟨by (with_reducible repeat (first|apply Kd.a_P|apply Kd.a_Q|apply Kd.a_X));exact a_u.out⟩,⟨by (with_reducible repeat (first|refine a_k ?_ _|refine a_n ?_|refine a_j ?_ _));exact a_S.out⟩,⟨by (with_reducible repeat (first|refine a_k ?_ _|refine a_n ?_|refine a_j ?_ _));exact a_N.out⟩,⟨by repeat (first|(with_reducible first|exact HB.out|apply a_e|apply a_c|apply a_f|refine a_d ?_ a_9.out|refine a_d ?_ b_F.out)|exact HB.out)⟩⟩
      rw [if_pos c29] at H
      have c29b0 : (t355 == t357) = true:=beq_iff_eq.mpr c29
      have c29b1 : (t355 != t357) = false:=bne_eq_false_iff_eq.mpr c29
      clear c29
      by_cases c30 : ((t355 == 0) != (x27_1 == x31_2)) = true
      ·rw [if_pos c30] at H
       have c30b0 : ((t355 == 0) != (x27_1 == x31_2)) = true:=c30
       (try (have c30b1 : decide ((t355 == 0) = (x27_1 == x31_2)) = false:=by simpa using c30))
       (try (have c30b2 : ((t355 == 0) == (x27_1 == x31_2)) = false:=by simpa using c30))
       (try (have c30b3 : ¬ ((t355 == 0) = (x27_1 == x31_2)):=by simpa using c30))
       clear c30
       have H':=a_a.mk H
       clear H
       go_wp2
       go_meet
       case rel => exact ⟨_,(true),(by first|rfl|(simp;done)|(simp [*];done)),H',⟨by have:=HK1.out;have:=HK2.out;first|omega|exact Nat.le_refl _⟩,⟨by (with_reducible repeat (first|apply Kd.a_P|apply Kd.a_Q|apply Kd.a_X));exact a_u.out⟩,⟨by (with_reducible repeat (first|refine a_k ?_ _|refine a_n ?_|refine a_j ?_ _));exact a_S.out⟩,⟨by (with_reducible repeat (first|refine a_k ?_ _|refine a_n ?_|refine a_j ?_ _));exact a_N.out⟩,⟨by repeat (first|(with_reducible first|exact HB.out|apply a_e|apply a_c|apply a_f|refine a_d ?_ a_9.out|refine a_d ?_ b_F.out)|exact HB.out)⟩⟩
      rw [if_neg c30] at H
      have c30b0 : ((t355 == 0) != (x27_1 == x31_2)) = false:=by simpa using c30
      (try (have c30b1 : decide ((t355 == 0) = (x27_1 == x31_2)) = true:=by simpa using c30))
      (try (have c30b2 : ((t355 == 0) == (x27_1 == x31_2)) = true:=by simpa using c30))
      clear c30
      replace H:=Option.bind_eq_some_iff.mp H
      obtain ⟨t359,A310,H⟩:=H
      replace H : ((b_B.f t359 x31_2).bind fun t360 => (a_b.j2 k2 (t350.length : Int) x27_1 x31_2 t355 (t350.length : Int) x27_1 (t350.length : Int) x31_2 (t360 != (decide (t355 ≤ 1))) t350)) = some r:=H
      have A31:=a_a.mk A310
      clear A310
      replace H:=Option.bind_eq_some_iff.mp H
      obtain ⟨t360,A320,H⟩:=H
      replace H : (a_b.j2 k2 (t350.length : Int) x27_1 x31_2 t355 (t350.length : Int) x27_1 (t350.length : Int) x31_2 (t360 != (decide (t355 ≤ 1))) t350) = some r:=H
      have A32:=a_a.mk A320
      clear A320
      have H':=a_a.mk H
      clear H
      have j_r:=b_K.out
      have j_P:=b_x.out
      have f_s : w26.cell? ⟨b_E,0,none⟩ = some (.slice Ao12 t350.length co12):=(a_l a_N.out 0).trans rfl
      have f_x:=a_i a_N.out 0
      go_wp2_with (first|(go_at_call 34;(with_reducible refine (b_e.calls _ _ t350 x27_1 t359 _ ?side1 ?side2 A31.out).mono ?_);(case side1 => repeat (first|exact (Kd.a_v a_u.out).2.2|(with_reducible refine Kd.a_L ?_ _)|(with_reducible refine Kd.a_M ?_ _)|(with_reducible refine Kd.a_U ?_)));(case side2 => exact (Kd.a_v a_u.out).2.1);rintro e w35 ⟨rfl,hb⟩;replace a_u:=a_a.mk (Kd.a_D (rup_ a_u.out) hb);replace a_S:=a_a.mk (a_m (bup_ a_S.out) hb);replace a_N:=a_a.mk (a_m (bup_ a_N.out) hb);replace HB:=a_a.mk (a_h (by repeat (first|(with_reducible first|exact HB.out|apply a_e|apply a_c|apply a_f|refine a_d ?_ a_9.out|refine a_d ?_ b_F.out)|exact HB.out)) hb);(try clear hb);(try clear hb2);(try clear hk);(try clear hi))|(go_at_call 33;(with_reducible refine (b_B.calls t359 x31_2 t360 _ A32.out).mono ?_);rintro e w' ⟨rfl,⟨nd,rfl⟩⟩))
      go_meet
      case rel => exact ⟨_,((t360 != (decide (t355 ≤ 1)))),(by first|rfl|(simp;done)|(simp [*];done)),H',⟨by have:=HK1.out;have:=HK2.out;first|omega|exact Nat.le_refl _⟩,⟨by (with_reducible repeat (first|apply Kd.a_P|apply Kd.a_Q|apply Kd.a_X));exact a_u.out⟩,⟨by (with_reducible repeat (first|refine a_k ?_ _|refine a_n ?_|refine a_j ?_ _));exact a_S.out⟩,⟨by (with_reducible repeat (first|refine a_k ?_ _|refine a_n ?_|refine a_j ?_ _));exact a_N.out⟩,⟨by repeat (first|(with_reducible first|exact HB.out|apply a_e|apply a_c|apply a_f|refine a_d ?_ a_9.out|refine a_d ?_ b_F.out)|exact HB.out)⟩⟩
     case rest =>
      clear HC21
      try clear c1
      try clear c2
      try clear p2
      try clear c3
      try clear c6
      try clear c6b0
      try clear c6b1
      try clear c7
      try clear c10
      try clear c11
      try clear c13
      try clear c17
      try clear c17b0
      try clear c18
      try clear c18b0
      try clear c22
      try clear c27
      try clear c27b0
      try clear c27b1
      try clear c28
      try clear c28b0
      try clear c28b1
      try clear c29
      try clear c29b0
      try clear c29b1
      try clear c30
      try clear c30b0
      try clear c30b1
      try clear c30b2
      try clear c33
      try clear c_q
      try clear c_r
      try clear e_q
      try clear d_G
      try clear f_s
      try clear d_n
      try clear c_s
      try clear c_t
      try clear e_s
      try clear d_H
      try clear f_x
      try clear d_o
      try clear p2
      obtain ⟨kq,x76_20,rfl,HA,HJ20,a_u,a_S,a_N,HB⟩:=hcut
      cases kq with
      | zero => exact absurd HA.out (by simp [a_b.j2])
      | succ kj20 =>
       have H:=HA.out
       clear HA
       simp only [a_b.j2] at H
       by_cases c36 : x76_20 = true
       ·subst c36
        have H1 : (some false) = some r:=by rw [if_pos rfl] at H;exact H
        clear H
        have H:=H1
        clear H1
        obtain rfl:=Option.some.inj H
        go_wp2
        go_ret
        exact ⟨by first|rfl|(simp [a_p,a_q] <;> rfl)|(simp [*, a_p,a_q] <;> rfl),by repeat (first|(with_reducible first|exact HB.out|apply a_e|apply a_c|apply a_f|refine a_d ?_ a_9.out|refine a_d ?_ b_F.out)|exact HB.out)⟩
       replace c36:=Bool.eq_false_iff.mpr c36
       subst c36
       have H1 : (a_b.l2 kj20 (t350.length : Int) x27_1 x31_2 t355 (t350.length : Int) x27_1 (t350.length : Int) x31_2 (t350.length : Int) 0 t350) = some r:=by rw [if_neg (show ¬ (false = true) by decide)] at H;exact H
       clear H
       have H:=H1
       clear H1
       have H':=a_a.mk H
       clear H
       go_wp2
       go_loopg [78] kj20 (fun kq v78 w' => ∃ (x78_4 : Int),v78 = .int .i64 x78_4 ∧ a_a (a_b.l2 kq (t350.length : Int) x27_1 x31_2 t355 (t350.length : Int) x27_1 (t350.length : Int) x31_2 (t350.length : Int) x78_4 t350 = some r) ∧ a_a (kq ≤ kj20) ∧ a_a (Kd.R k56 56 w' w.heap.size (fun _ => True) (.slice Ao12 t350.length co12) t350) ∧ a_a (w'.heap[b_0]? = some (.cells #[(.slice A0_0 l0_0.length c0_0)] 24 (0,0))) ∧ a_a (w'.heap[b_E]? = some (.cells #[(.slice Ao12 t350.length co12)] 24 (0,0))) ∧ a_a (Below w.heap.size w w'))
       case atStart => exact ⟨(0),(by first|rfl|(simp;done)|(simp [*];done)),H',⟨Nat.le_refl _⟩,⟨by (with_reducible repeat (first|apply Kd.a_P|apply Kd.a_Q|apply Kd.a_X));exact a_u.out⟩,⟨by (with_reducible repeat (first|refine a_k ?_ _|refine a_n ?_|refine a_j ?_ _));exact a_S.out⟩,⟨by (with_reducible repeat (first|refine a_k ?_ _|refine a_n ?_|refine a_j ?_ _));exact a_N.out⟩,⟨by repeat (first|(with_reducible first|exact HB.out|apply a_e|apply a_c|apply a_f|refine a_d ?_ a_9.out|refine a_d ?_ b_F.out)|exact HB.out)⟩⟩
       case round =>
        clear H'
        try clear c1
        try clear c2
        try clear p2
        try clear c3
        try clear c6
        try clear c6b0
        try clear c6b1
        try clear c7
        try clear c10
        try clear c11
        try clear c13
        try clear c17
        try clear c17b0
        try clear c18
        try clear c18b0
        try clear c22
        try clear c27
        try clear c27b0
        try clear c27b1
        try clear c28
        try clear c28b0
        try clear c28b1
        try clear c29
        try clear c29b0
        try clear c29b1
        try clear c30
        try clear c30b0
        try clear c30b1
        try clear c30b2
        try clear c33
        try clear c36
        try clear c_q
        try clear c_r
        try clear e_q
        try clear d_G
        try clear f_s
        try clear d_n
        try clear c_s
        try clear c_t
        try clear e_s
        try clear d_H
        try clear f_x
        try clear d_o
        try clear p2
        obtain ⟨x78_4,rfl,HA,HK4,a_u,a_S,a_N,HB⟩:=hrel
        cases gk with
        | zero => exact absurd HA.out (by simp [a_b.l2])
        | succ k4 =>
         have H:=HA.out
         clear HA
         simp only [a_b.l2] at H
         by_cases c37 : x78_4 < (t350.length : Int)
         rotate_left
         ·rw [if_neg c37] at H
          have c37b0 : decide (x78_4 < (t350.length : Int)) = false:=decide_eq_false c37
          clear c37
          have H':=a_a.mk H
          clear H
          go_wp2
          go_roundg k4
          case measure => have:=HK1.out;have:=HK2.out;have:=HJ20.out;have:=HK4.out;omega
          case rel => exact ⟨(wrap64 (x31_2 + 1)),(by first|rfl|(simp;done)|(simp [*];done)),H',⟨by have:=HK1.out;have:=HK2.out;have:=HJ20.out;have:=HK4.out;omega⟩,⟨by (with_reducible repeat (first|apply Kd.a_P|apply Kd.a_Q|apply Kd.a_X));exact a_u.out⟩,⟨by (with_reducible repeat (first|refine a_k ?_ _|refine a_n ?_|refine a_j ?_ _));exact a_S.out⟩,⟨by (with_reducible repeat (first|refine a_k ?_ _|refine a_n ?_|refine a_j ?_ _));exact a_N.out⟩,⟨by repeat (first|(with_reducible first|exact HB.out|apply a_e|apply a_c|apply a_f|refine a_d ?_ a_9.out|refine a_d ?_ b_F.out)|exact HB.out)⟩⟩
         rw [if_pos c37] at H
         have c37b0 : decide (x78_4 < (t350.length : Int)) = true:=decide_eq_true c37
         clear c37
         replace H:=Option.bind_eq_some_iff.mp H
         obtain ⟨⟨t361,t362⟩,A380,H⟩:=H
         replace H : ((a_x.f k4 t350 x78_4 x31_2).bind fun bt363 => (if t362 = 0 then (if bt363.2 = 0 then (if t355 > (mx t361 bt363.1) then (some false) else (a_b.l2 k4 (t350.length : Int) x27_1 x31_2 t355 (t350.length : Int) x27_1 (t350.length : Int) x31_2 (t350.length : Int) (wrap64 (x78_4 + 1)) t350)) else (some false)) else (some false))) = some r:=H
         have A38:=a_a.mk A380
         clear A380
         replace H:=Option.bind_eq_some_iff.mp H
         obtain ⟨⟨t363,t364⟩,A390,H⟩:=H
         replace H : (if t362 = 0 then (if t364 = 0 then (if t355 > (mx t361 t363) then (some false) else (a_b.l2 k4 (t350.length : Int) x27_1 x31_2 t355 (t350.length : Int) x27_1 (t350.length : Int) x31_2 (t350.length : Int) (wrap64 (x78_4 + 1)) t350)) else (some false)) else (some false)) = some r:=H
         have A39:=a_a.mk A390
         clear A390
         by_cases c40 : t362 = 0
         rotate_left
         ·rw [if_neg c40] at H
          have c40b0 : (t362 == 0) = false:=beq_eq_false_iff_ne.mpr c40
          have c40b1 : (t362 != 0) = true:=bne_iff_ne.mpr c40
          obtain rfl:=Option.some.inj H
          have j_C:=b_K.out
          have j_0:=b_x.out
          have i_m : wr.cell? ⟨b_E,0,none⟩ = some (.slice Ao12 t350.length co12):=(a_l a_N.out 0).trans rfl
          have i_P:=a_i a_N.out 0
          go_wp2_with (first|((with_reducible refine a_s (f:=17) rfl ?_);refine a_I (some 85) rfl rfl Tryd.func17 (by kernel_rfl) rfl #[.agg #[.slice Ao12 t350.length co12],.int .i64 x27_1,.int .i64 x78_4] rfl (by (try simp only [List.map_toArray,List.map_cons,List.map_nil]);first|done|rfl|(simp only [List.length_drop,List.length_take];rfl)) ?_;(with_reducible refine (a_x.calls k4 _ _ t350 x27_1 x78_4 t361 t362 _ ?side1 ?side2 A38.out).mono ?_);(case side1 => repeat (first|exact (Kd.a_v a_u.out).2.2|(with_reducible refine Kd.a_L ?_ _)|(with_reducible refine Kd.a_M ?_ _)|(with_reducible refine Kd.a_U ?_)));(case side2 => exact (Kd.a_v a_u.out).2.1);rintro e w61 ⟨rfl,hb⟩;refine ⟨_,rfl,?_⟩;replace a_u:=a_a.mk (Kd.a_D (rup_ a_u.out) hb);replace a_S:=a_a.mk (a_m (bup_ a_S.out) hb);replace a_N:=a_a.mk (a_m (bup_ a_N.out) hb);replace HB:=a_a.mk (a_h (by repeat (first|(with_reducible first|exact HB.out|apply a_e|apply a_c|apply a_f|refine a_d ?_ a_9.out|refine a_d ?_ b_F.out)|exact HB.out)) hb);(try clear hb);(try clear hb2);(try clear hk);(try clear hi);have g_x : w61.cell? ⟨b_E,0,none⟩ = some (.slice Ao12 t350.length co12):=(a_l a_N.out 0).trans rfl;have g_K:=a_i a_N.out 0)|((with_reducible refine a_s (f:=17) rfl ?_);refine a_I (some 92) rfl rfl Tryd.func17 (by kernel_rfl) rfl #[.agg #[.slice Ao12 t350.length co12],.int .i64 x78_4,.int .i64 x31_2] rfl (by (try simp only [List.map_toArray,List.map_cons,List.map_nil]);first|done|rfl|(simp only [List.length_drop,List.length_take];rfl)) ?_;(with_reducible refine (a_x.calls k4 _ _ t350 x78_4 x31_2 t363 t364 _ ?side1 ?side2 A39.out).mono ?_);(case side1 => repeat (first|exact (Kd.a_v a_u.out).2.2|(with_reducible refine Kd.a_L ?_ _)|(with_reducible refine Kd.a_M ?_ _)|(with_reducible refine Kd.a_U ?_)));(case side2 => exact (Kd.a_v a_u.out).2.1);rintro e w63 ⟨rfl,hb⟩;refine ⟨_,rfl,?_⟩;replace a_u:=a_a.mk (Kd.a_D (rup_ a_u.out) hb);replace a_S:=a_a.mk (a_m (bup_ a_S.out) hb);replace a_N:=a_a.mk (a_m (bup_ a_N.out) hb);replace HB:=a_a.mk (a_h (by repeat (first|(with_reducible first|exact HB.out|apply a_e|apply a_c|apply a_f|refine a_d ?_ a_9.out|refine a_d ?_ b_F.out)|exact HB.out)) hb);(try clear hb);(try clear hb2);(try clear hk);(try clear hi)))
          go_ret
          exact ⟨by first|rfl|(simp [a_p,a_q] <;> rfl)|(simp [*, a_p,a_q] <;> rfl),by repeat (first|(with_reducible first|exact HB.out|apply a_e|apply a_c|apply a_f|refine a_d ?_ a_9.out|refine a_d ?_ b_F.out)|exact HB.out)⟩
         rw [if_pos c40] at H
         have c40b0 : (t362 == 0) = true:=beq_iff_eq.mpr c40
         have c40b1 : (t362 != 0) = false:=bne_eq_false_iff_eq.mpr c40
         clear c40
         by_cases c41 : t364 = 0
         rotate_left
         ·rw [if_neg c41] at H
          have c41b0 : (t364 == 0) = false:=beq_eq_false_iff_ne.mpr c41
          have c41b1 : (t364 != 0) = true:=bne_iff_ne.mpr c41
          obtain rfl:=Option.some.inj H
          have j_B:=b_K.out
          have j_Z:=b_x.out
          have g_v : wr.cell? ⟨b_E,0,none⟩ = some (.slice Ao12 t350.length co12):=(a_l a_N.out 0).trans rfl
          have g_I:=a_i a_N.out 0
          go_wp2_with (first|((with_reducible refine a_s (f:=17) rfl ?_);refine a_I (some 85) rfl rfl Tryd.func17 (by kernel_rfl) rfl #[.agg #[.slice Ao12 t350.length co12],.int .i64 x27_1,.int .i64 x78_4] rfl (by (try simp only [List.map_toArray,List.map_cons,List.map_nil]);first|done|rfl|(simp only [List.length_drop,List.length_take];rfl)) ?_;(with_reducible refine (a_x.calls k4 _ _ t350 x27_1 x78_4 t361 t362 _ ?side1 ?side2 A38.out).mono ?_);(case side1 => repeat (first|exact (Kd.a_v a_u.out).2.2|(with_reducible refine Kd.a_L ?_ _)|(with_reducible refine Kd.a_M ?_ _)|(with_reducible refine Kd.a_U ?_)));(case side2 => exact (Kd.a_v a_u.out).2.1);rintro e w56 ⟨rfl,hb⟩;refine ⟨_,rfl,?_⟩;replace a_u:=a_a.mk (Kd.a_D (rup_ a_u.out) hb);replace a_S:=a_a.mk (a_m (bup_ a_S.out) hb);replace a_N:=a_a.mk (a_m (bup_ a_N.out) hb);replace HB:=a_a.mk (a_h (by repeat (first|(with_reducible first|exact HB.out|apply a_e|apply a_c|apply a_f|refine a_d ?_ a_9.out|refine a_d ?_ b_F.out)|exact HB.out)) hb);(try clear hb);(try clear hb2);(try clear hk);(try clear hi);have g_w : w56.cell? ⟨b_E,0,none⟩ = some (.slice Ao12 t350.length co12):=(a_l a_N.out 0).trans rfl;have g_J:=a_i a_N.out 0)|((with_reducible refine a_s (f:=17) rfl ?_);refine a_I (some 92) rfl rfl Tryd.func17 (by kernel_rfl) rfl #[.agg #[.slice Ao12 t350.length co12],.int .i64 x78_4,.int .i64 x31_2] rfl (by (try simp only [List.map_toArray,List.map_cons,List.map_nil]);first|done|rfl|(simp only [List.length_drop,List.length_take];rfl)) ?_;(with_reducible refine (a_x.calls k4 _ _ t350 x78_4 x31_2 t363 t364 _ ?side1 ?side2 A39.out).mono ?_);(case side1 => repeat (first|exact (Kd.a_v a_u.out).2.2|(with_reducible refine Kd.a_L ?_ _)|(with_reducible refine Kd.a_M ?_ _)|(with_reducible refine Kd.a_U ?_)));(case side2 => exact (Kd.a_v a_u.out).2.1);rintro e w58 ⟨rfl,hb⟩;refine ⟨_,rfl,?_⟩;replace a_u:=a_a.mk (Kd.a_D (rup_ a_u.out) hb);replace a_S:=a_a.mk (a_m (bup_ a_S.out) hb);replace a_N:=a_a.mk (a_m (bup_ a_N.out) hb);replace HB:=a_a.mk (a_h (by repeat (first|(with_reducible first|exact HB.out|apply a_e|apply a_c|apply a_f|refine a_d ?_ a_9.out|refine a_d ?_ b_F.out)|exact HB.out)) hb);(try clear hb);(try clear hb2);(try clear hk);(try clear hi)))
          go_ret
          exact ⟨by first|rfl|(simp [a_p,a_q] <;> rfl)|(simp [*, a_p,a_q] <;> rfl),by repeat (first|(with_reducible first|exact HB.out|apply a_e|apply a_c|apply a_f|refine a_d ?_ a_9.out|refine a_d ?_ b_F.out)|exact HB.out)⟩
         rw [if_pos c41] at H
         have c41b0 : (t364 == 0) = true:=beq_iff_eq.mpr c41
         have c41b1 : (t364 != 0) = false:=bne_eq_false_iff_eq.mpr c41
         clear c41
         obtain ⟨ji42,hji42⟩ : ∃ j_ : Int,(mx t361 t363) = j_:=⟨_,rfl⟩
         replace H : (if t355 > (ji42) then (some false) else (a_b.l2 k4 (t350.length : Int) x27_1 x31_2 t355 (t350.length : Int) x27_1 (t350.length : Int) x31_2 (t350.length : Int) (wrap64 (x78_4 + 1)) t350)) = some r:=by first|(rw [hji42] at H;exact H)|(simp only [hji42] at H ⊢; exact H)
         (try rw [hji42] at A38)
         (try rw [hji42] at A39)
         have hji42_ : (if t361 < t363 then t363 else t361) = ji42:=hji42
         by_cases c43 : t355 > (ji42)
         ·rw [if_pos c43] at H
          have c43b0 : decide ((ji42) < t355) = true:=decide_eq_true c43
          clear c43
          obtain rfl:=Option.some.inj H
          have j_y:=b_K.out
          have j_W:=b_x.out
          have i_g : wr.cell? ⟨b_E,0,none⟩ = some (.slice Ao12 t350.length co12):=(a_l a_N.out 0).trans rfl
          have i_J:=a_i a_N.out 0
          go_wp2_with (first|((with_reducible refine a_s (f:=17) rfl ?_);refine a_I (some 85) rfl rfl Tryd.func17 (by kernel_rfl) rfl #[.agg #[.slice Ao12 t350.length co12],.int .i64 x27_1,.int .i64 x78_4] rfl (by (try simp only [List.map_toArray,List.map_cons,List.map_nil]);first|done|rfl|(simp only [List.length_drop,List.length_take];rfl)) ?_;(with_reducible refine (a_x.calls k4 _ _ t350 x27_1 x78_4 t361 t362 _ ?side1 ?side2 A38.out).mono ?_);(case side1 => repeat (first|exact (Kd.a_v a_u.out).2.2|(with_reducible refine Kd.a_L ?_ _)|(with_reducible refine Kd.a_M ?_ _)|(with_reducible refine Kd.a_U ?_)));(case side2 => exact (Kd.a_v a_u.out).2.1);rintro e w46 ⟨rfl,hb⟩;refine ⟨_,rfl,?_⟩;replace a_u:=a_a.mk (Kd.a_D (rup_ a_u.out) hb);replace a_S:=a_a.mk (a_m (bup_ a_S.out) hb);replace a_N:=a_a.mk (a_m (bup_ a_N.out) hb);replace HB:=a_a.mk (a_h (by repeat (first|(with_reducible first|exact HB.out|apply a_e|apply a_c|apply a_f|refine a_d ?_ a_9.out|refine a_d ?_ b_F.out)|exact HB.out)) hb);(try clear hb);(try clear hb2);(try clear hk);(try clear hi);have i_j : w46.cell? ⟨b_E,0,none⟩ = some (.slice Ao12 t350.length co12):=(a_l a_N.out 0).trans rfl;have i_M:=a_i a_N.out 0)|((with_reducible refine a_s (f:=17) rfl ?_);refine a_I (some 92) rfl rfl Tryd.func17 (by kernel_rfl) rfl #[.agg #[.slice Ao12 t350.length co12],.int .i64 x78_4,.int .i64 x31_2] rfl (by (try simp only [List.map_toArray,List.map_cons,List.map_nil]);first|done|rfl|(simp only [List.length_drop,List.length_take];rfl)) ?_;(with_reducible refine (a_x.calls k4 _ _ t350 x78_4 x31_2 t363 t364 _ ?side1 ?side2 A39.out).mono ?_);(case side1 => repeat (first|exact (Kd.a_v a_u.out).2.2|(with_reducible refine Kd.a_L ?_ _)|(with_reducible refine Kd.a_M ?_ _)|(with_reducible refine Kd.a_U ?_)));(case side2 => exact (Kd.a_v a_u.out).2.1);rintro e w48 ⟨rfl,hb⟩;refine ⟨_,rfl,?_⟩;replace a_u:=a_a.mk (Kd.a_D (rup_ a_u.out) hb);replace a_S:=a_a.mk (a_m (bup_ a_S.out) hb);replace a_N:=a_a.mk (a_m (bup_ a_N.out) hb);replace HB:=a_a.mk (a_h (by repeat (first|(with_reducible first|exact HB.out|apply a_e|apply a_c|apply a_f|refine a_d ?_ a_9.out|refine a_d ?_ b_F.out)|exact HB.out)) hb);(try clear hb);(try clear hb2);(try clear hk);(try clear hi)))
          go_ret
          exact ⟨by first|rfl|(simp [a_p,a_q] <;> rfl)|(simp only [← hji42];first|rfl|(simp [a_p,a_q] <;> rfl))|(simp [*, a_p,a_q] <;> rfl),by repeat (first|(with_reducible first|exact HB.out|apply a_e|apply a_c|apply a_f|refine a_d ?_ a_9.out|refine a_d ?_ b_F.out)|exact HB.out)⟩
         rw [if_neg c43] at H
         have c43b0 : decide ((ji42) < t355) = false:=decide_eq_false c43
         clear c43
         have H':=a_a.mk H
         clear H
         have j_A:=b_K.out
         have j_Y:=b_x.out
         have g_u : wr.cell? ⟨b_E,0,none⟩ = some (.slice Ao12 t350.length co12):=(a_l a_N.out 0).trans rfl
         have g_H:=a_i a_N.out 0
         go_wp2_with (first|((with_reducible refine a_s (f:=17) rfl ?_);refine a_I (some 85) rfl rfl Tryd.func17 (by kernel_rfl) rfl #[.agg #[.slice Ao12 t350.length co12],.int .i64 x27_1,.int .i64 x78_4] rfl (by (try simp only [List.map_toArray,List.map_cons,List.map_nil]);first|done|rfl|(simp only [List.length_drop,List.length_take];rfl)) ?_;(with_reducible refine (a_x.calls k4 _ _ t350 x27_1 x78_4 t361 t362 _ ?side1 ?side2 A38.out).mono ?_);(case side1 => repeat (first|exact (Kd.a_v a_u.out).2.2|(with_reducible refine Kd.a_L ?_ _)|(with_reducible refine Kd.a_M ?_ _)|(with_reducible refine Kd.a_U ?_)));(case side2 => exact (Kd.a_v a_u.out).2.1);rintro e w51 ⟨rfl,hb⟩;refine ⟨_,rfl,?_⟩;replace a_u:=a_a.mk (Kd.a_D (rup_ a_u.out) hb);replace a_S:=a_a.mk (a_m (bup_ a_S.out) hb);replace a_N:=a_a.mk (a_m (bup_ a_N.out) hb);replace HB:=a_a.mk (a_h (by repeat (first|(with_reducible first|exact HB.out|apply a_e|apply a_c|apply a_f|refine a_d ?_ a_9.out|refine a_d ?_ b_F.out)|exact HB.out)) hb);(try clear hb);(try clear hb2);(try clear hk);(try clear hi);have i_l : w51.cell? ⟨b_E,0,none⟩ = some (.slice Ao12 t350.length co12):=(a_l a_N.out 0).trans rfl;have i_O:=a_i a_N.out 0)|((with_reducible refine a_s (f:=17) rfl ?_);refine a_I (some 92) rfl rfl Tryd.func17 (by kernel_rfl) rfl #[.agg #[.slice Ao12 t350.length co12],.int .i64 x78_4,.int .i64 x31_2] rfl (by (try simp only [List.map_toArray,List.map_cons,List.map_nil]);first|done|rfl|(simp only [List.length_drop,List.length_take];rfl)) ?_;(with_reducible refine (a_x.calls k4 _ _ t350 x78_4 x31_2 t363 t364 _ ?side1 ?side2 A39.out).mono ?_);(case side1 => repeat (first|exact (Kd.a_v a_u.out).2.2|(with_reducible refine Kd.a_L ?_ _)|(with_reducible refine Kd.a_M ?_ _)|(with_reducible refine Kd.a_U ?_)));(case side2 => exact (Kd.a_v a_u.out).2.1);rintro e w53 ⟨rfl,hb⟩;refine ⟨_,rfl,?_⟩;replace a_u:=a_a.mk (Kd.a_D (rup_ a_u.out) hb);replace a_S:=a_a.mk (a_m (bup_ a_S.out) hb);replace a_N:=a_a.mk (a_m (bup_ a_N.out) hb);replace HB:=a_a.mk (a_h (by repeat (first|(with_reducible first|exact HB.out|apply a_e|apply a_c|apply a_f|refine a_d ?_ a_9.out|refine a_d ?_ b_F.out)|exact HB.out)) hb);(try clear hb);(try clear hb2);(try clear hk);(try clear hi)))
         go_roundg k4
         case measure => have:=HK1.out;have:=HK2.out;have:=HJ20.out;have:=HK4.out;omega
         case rel => exact ⟨(wrap64 (x78_4 + 1)),(by first|rfl|(simp;done)|(simp [*];done)),H',⟨by have:=HK1.out;have:=HK2.out;have:=HJ20.out;have:=HK4.out;omega⟩,⟨by (with_reducible repeat (first|apply Kd.a_P|apply Kd.a_Q|apply Kd.a_X));exact a_u.out⟩,⟨by (with_reducible repeat (first|refine a_k ?_ _|refine a_n ?_|refine a_j ?_ _));exact a_S.out⟩,⟨by (with_reducible repeat (first|refine a_k ?_ _|refine a_n ?_|refine a_j ?_ _));exact a_N.out⟩,⟨by repeat (first|(with_reducible first|exact HB.out|apply a_e|apply a_c|apply a_f|refine a_d ?_ a_9.out|refine a_d ?_ b_F.out)|exact HB.out)⟩⟩
end Go.Proofs.YtcpfcehfgenljaaDoor.Q
end
section
namespace Go.Proofs.YtcpfcehfgenljaaDoor.Pure
open Go.RowKit Go.Proofs.YtcpfcehfgenljaaDoor.Q Go.Proofs.YtcpfcehfgenljaaDoorW.PrintWords Go.Proofs.YtcpfcehfgenljaaDoorW.PrintLast Go.Proofs.YtcpfcehfgenljaaDoorW.PrintMore
set_option linter.unusedVariables false
set_option linter.unusedSimpArgs false
theorem d_P (n : Nat) (h : n < 9223372036854775807) : wrap64 ((n : Int) + 1) = ((n + 1 : Nat) : Int):=by unfold wrap64;omega
theorem f_Z : Ev (fun k => a_t.f k) true:=Ev.of a_t.mono (k:=100) (by kernel_rfl)
theorem g_S (l : List S56) : a_C.f l = some (l.take 9):=by
 have h : mn (l.length : Int) 9 = ((min l.length 9 : Nat) : Int):=by unfold mn;split <;> omega
 unfold a_C.f
 rw [h,if_pos (by omega),if_pos (by omega),Int.toNat_natCast]
 unfold a_O.f
 have e : l.take (min l.length 9) = l.take 9:=by rw [List.take_eq_take_iff];omega
 have hl : (l.take 9).length ≤ 9:=by rw [List.length_take];omega
 rw [e]
 simp only [Option.bind_some,List.nil_append,List.length_nil]
 rw [if_pos (by omega)]
 rfl
theorem g_P (l : List S56) : okT l = (decide (1 ≤ l.length) && decide (l.length ≤ 8) && !l.any e_y):=rfl
theorem d_K {l : List S56} (h : okT l = true) : 1 ≤ l.length ∧ l.length ≤ 8:=by
 rw [g_P] at h
 simp only [Bool.and_eq_true,decide_eq_true_eq] at h
 exact h.1
theorem g_Z (l : List S56) (a b : Int) : Ev (fun k => a_x.f k l a b) (if okT l = true then (if 0 ≤ a ∧ a < (l.length : Int) then (if 0 ≤ b ∧ b < (l.length : Int) then (dN l a b,0) else (0,2)) else (0,2)) else (0,160)):=by
 unfold a_x.f
 simp only [b_T,Option.bind_some,e_A]
 cases h : okT l
 ·exact Ev.now _
 simp only [if_true]
 by_cases ha : 0 ≤ a ∧ a < (l.length : Int)
 rotate_left
 ·simp only [decide_eq_false ha,if_neg ha]
  exact Ev.now _
 by_cases hb : 0 ≤ b ∧ b < (l.length : Int)
 ·simp only [decide_eq_true ha,decide_eq_true hb,if_pos ha,if_pos hb,if_true]
  exact Ev.bind (Ev.of (a_w.mono _ _ _) (f_j l a b ha.1 ha.2 hb.1 hb.2)) (Ev.now _)
 simp only [decide_eq_true ha,decide_eq_false hb,if_pos ha,if_neg hb,if_true]
 exact Ev.now _
end Go.Proofs.YtcpfcehfgenljaaDoor.Pure
end
section
namespace Go.Proofs.YtcpfcehfgenljaaDoor.Pure
open Go.RowKit Go.Proofs.YtcpfcehfgenljaaDoor.Q Go.Proofs.YtcpfcehfgenljaaDoorW.PrintWords Go.Proofs.YtcpfcehfgenljaaDoorW.PrintLast Go.Proofs.YtcpfcehfgenljaaDoorW.PrintMore
set_option linter.unusedVariables false
set_option linter.unusedSimpArgs false
theorem g_R (p : S56 → Bool) (l : List S56) (i : Nat) : (setN p l).testBit i = (okT l && (decide (i < l.length) && p (a_r l (i : Int)))):=by
 unfold setN
 cases h : okT l
 ·simp
 simp only [if_true,Bool.true_and]
 unfold maskN
 rw [e_F,Nat.zero_testBit,Bool.false_or,Bool.eq_iff_iff,decide_eq_true_eq]
 unfold c_g
 rw [List.mem_filter,List.mem_range,Bool.and_eq_true,decide_eq_true_eq]
theorem h_F (m i : Nat) (hm : m < 256) : b_B.f (m : Int) (i : Int) = some (m.testBit i):=by
 unfold b_B.f
 by_cases hi : i < 8
 ·rw [h_e i hi,Option.bind_some]
  have h1 : ∀ (a : Fin 256) (b : Fin 8),(Go.bits .and .u32 (a.val : Int) ((2 ^ b.val : Nat) : Int) != 0) = a.val.testBit b.val:=by decide +kernel
  rw [h1 ⟨m,hm⟩ ⟨i,hi⟩]
 have hz : m.testBit i = false:=Nat.testBit_lt_two_pow (Nat.lt_of_lt_of_le (show m < 2 ^ 8 by omega) (Nat.pow_le_pow_right (by decide) (by omega)))
 have hb : b_k.f (i : Int) = some 0:=by unfold b_k.f;rw [if_neg (by omega),if_pos (by omega)]
 rw [hb,Option.bind_some,hz]
 have h1 : ∀ (a : Fin 256),(Go.bits .and .u32 (a.val : Int) 0 != 0) = false:=by decide +kernel
 rw [h1 ⟨m,hm⟩]
def sibP (l : List S56) (a : Int) : S56 → Bool:=fun s => s.f0 == (a_r l a).f0 && (s.f1 == (a_r l a).f1)
def sibN (l : List S56) (a : Int) : Nat:=if 0 ≤ a ∧ a < (l.length : Int) then setN (sibP l a) l else 0
theorem e_O (l : List S56) (hl : l.length ≤ 1000000) (a : Int) : b_e.f l a = some ((sibN l a : Nat) : Int):=by
 unfold b_e.f sibN
 rw [e_A,Option.bind_some]
 by_cases h : 0 ≤ a ∧ a < (l.length : Int)
 ·rw [decide_eq_true h,if_pos rfl,if_pos h.1,if_pos h.2,if_pos h]
  unfold b_f.f
  rw [if_pos hl];rfl
 rw [decide_eq_false h,if_neg (by decide),if_neg h];rfl
theorem g_T (l : List S56) (a : Int) : sibN l a < 256:=by
 unfold sibN
 split
 ·exact f_E _ _
 omega
theorem h_g (l : List S56) (a b : Int) : dN l a b = dN l b a:=by
 unfold dN
 by_cases e : a = b
 ·subst e;rfl
 rw [if_neg e,if_neg (show ¬ b = a from fun h => e h.symm)]
 have h1 : ((a_r l b).f0 == (a_r l a).f0) = ((a_r l a).f0 == (a_r l b).f0):=Bool.beq_comm
 have h2 : ((a_r l b).f1 == (a_r l a).f1) = ((a_r l a).f1 == (a_r l b).f1):=Bool.beq_comm
 rw [h1,h2]
 by_cases h : (a_r l a).f0 = (a_r l b).f0
 ·rw [if_pos h,if_pos h.symm]
 rw [if_neg h,if_neg (show ¬ (a_r l b).f0 = (a_r l a).f0 from fun e => h e.symm)]
theorem d_E (l : List S56) (a b : Int) : dN l a b = 0 ↔ a = b:=by
 unfold dN
 split
 ·simp_all
 split
 ·simp_all
 split <;> simp_all
theorem e_E (l : List S56) (a b : Int) : dN l a b ≤ 1 ↔ (a_r l b).f0 = (a_r l a).f0 ∧ (a_r l b).f1 = (a_r l a).f1:=by
 unfold dN
 split
 ·next e => subst e;simp
 split
 ·next h => simp only [Bool.and_eq_true,beq_iff_eq] at h;simp [h.1,h.2]
 next h =>
 simp only [Bool.and_eq_true,beq_iff_eq] at h
 have hn : ¬ ((a_r l b).f0 = (a_r l a).f0 ∧ (a_r l b).f1 = (a_r l a).f1):=fun ⟨h1,h2⟩ => h ⟨h1.symm,h2.symm⟩
 split <;> simp [hn]
theorem f_i (l : List S56) (a b : Int) : dN l a b ≤ 2 ↔ (a_r l a).f0 = (a_r l b).f0:=by
 unfold dN
 split
 ·next e => subst e;simp
 split
 ·next h => simp only [Bool.and_eq_true,beq_iff_eq] at h;simp [h.1]
 split
 ·next h => simp [h]
 next h => simp [h]
theorem h_h (l : List S56) (a b c : Int) : dN l a b ≤ mx (dN l a c) (dN l c b):=by
 have r1:=c_w l a b
 have r2:=c_w l a c
 have r3:=c_w l c b
 have z1:=d_E l a b
 have z2:=d_E l a c
 have z3:=d_E l c b
 have o1:=e_E l a b
 have o2:=e_E l a c
 have o3:=e_E l c b
 have t1:=f_i l a b
 have t2:=f_i l a c
 have t3:=f_i l c b
 apply Int.le_of_not_gt
 intro hgt
 have hm1 : dN l a c ≤ mx (dN l a c) (dN l c b):=by unfold mx;split <;> omega
 have hm2 : dN l c b ≤ mx (dN l a c) (dN l c b):=by unfold mx;split <;> omega
 generalize mx (dN l a c) (dN l c b) = m at hgt hm1 hm2
 rcases (show m ≤ 0 ∨ m = 1 ∨ m = 2 ∨ 3 ≤ m by omega) with hm|hm|hm|hm
 ·have:=z2.1 (by omega);have:=z3.1 (by omega);have:=z1.2 (by omega);omega
 ·have:=o2.1 (by omega);have:=o3.1 (by omega);have:=o1.2 ⟨by omega,by omega⟩;omega
 ·have:=t2.1 (by omega);have:=t3.1 (by omega);have:=t1.2 (by omega);omega
 omega
end Go.Proofs.YtcpfcehfgenljaaDoor.Pure
end
section
namespace Go.Proofs.YtcpfcehfgenljaaDoor.Pure
open Go.RowKit Go.Proofs.YtcpfcehfgenljaaDoor.Q Go.Proofs.YtcpfcehfgenljaaDoorW.PrintWords Go.Proofs.YtcpfcehfgenljaaDoorW.PrintLast Go.Proofs.YtcpfcehfgenljaaDoorW.PrintMore
set_option linter.unusedVariables false
set_option linter.unusedSimpArgs false
theorem d_w {l : List S56} (h : okT l = true) (a b : Nat) (ha : a < l.length) (hb : b < l.length) : Ev (fun k => a_x.f k l (a : Int) (b : Int)) (dN l (a : Int) (b : Int),0):=by
 have:=g_Z l (a : Int) (b : Int)
 rw [h,if_pos rfl,if_pos ⟨by omega,by omega⟩,if_pos ⟨by omega,by omega⟩] at this
 exact this
theorem g_U {l : List S56} (h : okT l = true) (a b : Nat) (ha : a < l.length) (hb : b < l.length) : (sibN l (a : Int)).testBit b = decide (dN l (a : Int) (b : Int) ≤ 1):=by
 unfold sibN
 rw [if_pos ⟨by omega,by omega⟩,g_R,h,decide_eq_true hb,Bool.true_and,Bool.true_and,Bool.eq_iff_iff,decide_eq_true_eq,e_E]
 unfold sibP
 simp
theorem d_8 (l : List S56) (h : okT l = true) (a b : Nat) (ha : a < l.length) (hb : b < l.length) (hR : Ev (fun k => a_b.l1 k (l.length : Int) (a : Int) (l.length : Int) (a : Int) (l.length : Int) ((b + 1 : Nat) : Int) l) true) :
 ∀ n c : Nat,c + n = l.length → Ev (fun k => a_b.l2 k (l.length : Int) (a : Int) (b : Int) (dN l (a : Int) (b : Int)) (l.length : Int) (a : Int) (l.length : Int) (b : Int) (l.length : Int) (c : Int) l) true
 | 0,c,hc => by
  have hl:=d_K h
  refine Ev.step (fun k => ?_) hR
  rw [a_b.l2,if_neg (by omega),d_P b (by omega)]
 | n + 1,c,hc => by
  have hl:=d_K h
  have ih:=d_8 l h a b ha hb hR n (c + 1) (by omega)
  refine Ev.step (fun k => by rw [a_b.l2,if_pos (by omega),d_P c (by omega)]) ?_
  refine Ev.bind (d_w h a c ha (by omega)) (Ev.bind (d_w h c b (by omega) hb) ?_)
  simp only [if_true,if_neg (show ¬ dN l (a : Int) (b : Int) > mx (dN l (a : Int) (c : Int)) (dN l (c : Int) (b : Int)) from Int.not_lt.2 (h_h l _ _ _))]
  exact ih
theorem d_7 (l : List S56) (h : okT l = true) (a : Nat) (ha : a < l.length) (hR : Ev (fun k => a_b.l0 k (l.length : Int) (l.length : Int) ((a + 1 : Nat) : Int) l) true) :
 ∀ n b : Nat,b + n = l.length → Ev (fun k => a_b.l1 k (l.length : Int) (a : Int) (l.length : Int) (a : Int) (l.length : Int) (b : Int) l) true
 | 0,b,hb => by
  have hl:=d_K h
  refine Ev.step (fun k => ?_) hR
  rw [a_b.l1,if_neg (by omega),d_P a (by omega)]
 | n + 1,b,hb => by
  have hl:=d_K h
  have ih:=d_7 l h a ha hR n (b + 1) (by omega)
  have h2:=d_8 l h a b ha (by omega) ih l.length 0 (by omega)
  refine Ev.step (fun k => by rw [a_b.l1,if_pos (by omega)]) ?_
  refine Ev.bind (d_w h a b ha (by omega)) (Ev.bind (d_w h b a (by omega) ha) ?_)
  have hz : ((dN l (a : Int) (b : Int) == 0) != ((a : Int) == (b : Int))) = false:=by
   rw [bne_eq_false_iff_eq,Bool.eq_iff_iff,beq_iff_eq,beq_iff_eq]
   exact d_E l _ _
  have hs : ((sibN l (a : Int)).testBit b != decide (dN l (a : Int) (b : Int) ≤ 1)) = false:=by rw [g_U h a b ha (by omega)];simp
  simp only [if_true,if_pos (h_g l (a : Int) (b : Int)),hz,Bool.false_eq_true,if_false,e_O l (by omega),Option.bind_some,h_F _ b (g_T l (a : Int)),hs]
  refine Ev.step (fun k => ?_) h2
  rw [a_b.j2]
  rfl
theorem d_6 (l : List S56) (h : okT l = true) : ∀ n a : Nat,a + n = l.length → Ev (fun k => a_b.l0 k (l.length : Int) (l.length : Int) (a : Int) l) true
 | 0,a,ha => by
  refine Ev.step (f:=fun _ => some true) (fun k => ?_) (Ev.now _)
  rw [a_b.l0,if_neg (by omega)]
 | n + 1,a,ha => by
  have ih:=d_6 l h n (a + 1) (by omega)
  refine Ev.step (fun k => ?_) (d_7 l h a (by omega) ih l.length 0 (by omega))
  rw [a_b.l0,if_pos (by omega)]
  rfl
theorem d_l (l : List S56) (h1 : wf24 ⟨l⟩) : ∃ k,a_b.f k l = some true:=by
 refine Ev.rounds (g:=fun k => a_b.f k l) (Ev.bind f_Z ?_)
 simp only [if_true,g_S,Option.bind_some,b_T]
 generalize l.take 9 = t
 cases h : okT t
 ·exact Ev.now _
 exact d_6 t h t.length 0 (by omega)
end Go.Proofs.YtcpfcehfgenljaaDoor.Pure
end
section
namespace Go.Proofs.YtcpfcehfgenljaaDoor.topoMetric
open Go.ChangeShapes Go.WideShapes Go.ChangeAt Go.RowKit Go.Proofs.YtcpfcehfgenljaaDoor.Q
open Go.Proofs.YtcpfcehfgenljaaDoorW.PrintWords Go.Proofs.YtcpfcehfgenljaaDoorW.PrintLast Go.Proofs.YtcpfcehfgenljaaDoorW.PrintMore
set_option linter.unusedVariables false
set_option linter.unusedSimpArgs false
theorem h_s {W : World} (h : laidMetH Tryd.prog Rows.topoMetricRow.laid W) : b_p W:=by
 rw [MakeChecks.laidMetH_plain _ _ _ (by kernel_rfl)] at h
 have h' : laidMet Tryd.prog [("math/bits.deBruijn32tab", Lib.tabData .u8 (Lib.deBruijn32tab.map fun n : Nat => (n : Int)))] W := h
 have ht:=Lib.tabIs_of_head (g:=0) (by kernel_rfl) (by kernel_rfl) Tryd.underlying97 Tryd.underlying5 (by kernel_rfl) (by kernel_rfl) h'
 intro j hj
 have hc:=ht.cell (g:=0) (by kernel_rfl) j (by simpa using hj)
 rw [hc]
 simp only [List.getD_eq_getElem?_getD,List.getElem?_map]
 rw [List.getElem?_eq_getElem hj]
 rfl
theorem f_O (os : Os) (args : Array Value) : laidMetH Tryd.prog Rows.topoMetricRow.laid ((World.doorLaid Tryd.prog 14 os).forCall (fun _ _ => 0) ⟨#[],args,[]⟩).memory :=
 laidMetH_of_parts3 (fuel:=8) (laidMet_of_run' 8 (by kernel_rfl) (by kernel_rfl)) (by kernel_rfl) (by kernel_rfl)
set_option maxRecDepth 100000 in
theorem lifted (os : Os) (started : os.Started) (H : Type) (enc : TypeId × Value → H) :
 ReturnsInHanded {} Tryd.checked os 7 .any (fun w args => (Rows.topoMetricSpec.pre enc Tryd.prog Tryd.f7 [] false w args ∧ laidMetH Tryd.prog Rows.topoMetricRow.laid w) ∧ sizedMet enc Tryd.prog Tryd.f7 (OpenSpec.ofChange Rows.topoMetricSpec) false w args) (Rows.topoMetricSpec.post enc Tryd.prog Tryd.f7 false true false false):=by
 refine returnsInHanded_of_change_and (C:=Tryd.checked) (X:=fun w _ => laidMetH Tryd.prog Rows.topoMetricRow.laid w) (fun _ _ _ hh h => h.of_heap hh) own started (by kernel_rfl) Tryd.func7
  (ChangeSpec.witness_shaped (enc:=enc) (C:=Tryd.checked) (os:=os) (X:=fun w _ => laidMetH Tryd.prog Rows.topoMetricRow.laid w) false (World.doorLaid Tryd.prog 14 os) #[.agg #[.slice none 0 0]] 8 rfl (World.shaped_of_RefB (by kernel_rfl) (by kernel_rfl)) (by kernel_rfl) (by kernel_rfl) (by kernel_rfl) (f_O os _)) ?_
 intro W base args ds gs before hval0 hW hcnd hsz0 hL _
 have hT:=h_s hL
 have hval : ∀ (j : Nat) t v,Tryd.f7.params[j]? = some t → args[j]? = some v → Value.okWide Tryd.prog W .any base t v:=hval0
 have hW':=hW
 obtain ⟨p,q,hA0,hV,rfl,hfz,hnd⟩:=hW
 have hA : DataW.TrodAll enc Tryd.prog W 0 (fun _ => true) true Tryd.f7.params.toList args.toList ds p:=hA0
 rw [Tryd.params7] at hA hval
 obtain ⟨v0,vs0,d0,ds0,p0,q0,hargs,rfl,rfl,h0,r0⟩:=trodAll_cons hA
 obtain ⟨rfl,rfl,rfl⟩:=trodAll_nil r0
 obtain rfl : args = #[v0]:=by cases args;simp_all
 obtain ⟨rfl,rfl⟩:=trodVars_none hV
 have k0:=h0
 have lt0 : ∀ x ∈ p0,x.block < W.heap.size:=by obtain ⟨m,hm⟩:=k0;exact DataW.trod_lt m _ _ _ hm
 obtain ⟨cs0,rfl,hz0⟩:=okWide_struct Tryd.underlying24 (hval 0 24 v0 rfl rfl)
 obtain ⟨fuel0,hf0⟩:=h0
 obtain ⟨x0,hK0,wf0_⟩:=op24.open_ hf0
 obtain ⟨A0_0,c0_0,he0,hc0_0,hr0_0⟩:=f_S hK0
 have hq0:=toList_eq he0
 simp only [Value.cells] at hq0
 subst hq0
 obtain ⟨K,hK⟩:=Pure.d_l x0.f0 wf0_
 refine (a_b.calls _ _ _ _ _ _ hr0_0 hc0_0 hT hK).mono fun e W' ⟨he,bel⟩ => ?_
 subst he
 exact ⟨_,rfl,_,_,_,[],_,[],hW',trodAll_mk1 (shut_bool Tryd.underlying4 _),(trodAll_cons_mk (Below.trod laidOut (by kernel_rfl) (of_decide_eq_true (by kernel_rfl)) k0 bel lt0) trodAll_mk0),rfl,bel.frame _,fun h => by cases h⟩
theorem over : Rows.topoMetricRow.holds Tryd.pinned (OpenSpec.ofChange Rows.topoMetricSpec) :=
 OpenClaim.holds_of_wide 7 Tryd.f7 rfl rfl rfl rfl rfl rfl rfl ⟨rfl,rfl,rfl,rfl,rfl⟩ rfl rfl rfl rfl rfl (by kernel_rfl) Tryd.func7 (by kernel_rfl)
  (of_decide_eq_true (by kernel_rfl)) (by unfold Func.isWrapper;first|(rw [if_pos (by decide +kernel)];kernel_rfl)|(rw [if_neg (by decide +kernel)];exact ⟨rfl,rfl⟩))
  (fun os started H enc _ => lifted os started H enc)
theorem h_L : Rows.TopoMetricCardSaid :=
 Claim7.holds_tied_plain_at .later [] [.data] true (true, "6dbd2b49adb5acd0b183bc1951f3d41c819263b5044b5d85a2e1d0af7c9bdaaa") false
  over (fun _ h => by cases h) (by kernel_rfl) (fun _ h => by cases h) topoMetric_row_tie rfl ⟨rfl,rfl⟩ (by kernel_rfl) rfl
  (fun f fn hf hfn => by
   obtain rfl : f = 7 := Option.some.inj ((show Tryd.prog.funcNamed "mainsheet/mainsheetlaw06.TopoMetric" = some 7 by kernel_rfl).symm.trans hf) |>.symm
   obtain rfl : fn = Tryd.f7:=(Option.some.inj (Tryd.func7.symm.trans hfn)).symm
   exact ⟨by kernel_rfl,fun j t ht => by
    rw [Tryd.params7] at ht
    rcases j with _|j
    ·obtain rfl : 24 = t:=by simpa using ht
     exact (show Tryd.prog.wantsStandIn 24 = false by kernel_rfl)
    ·simp at ht⟩)
  (by kernel_rfl)
theorem proved : Rows.TopoMetricCardSaid:=h_L
#print axioms proved
end Go.Proofs.YtcpfcehfgenljaaDoor.topoMetric
namespace Go.Proofs.YtcpfcehfgenljaaDoor
theorem topoMetric_holds : Rows.TopoMetricCardSaid:=topoMetric.proved
end Go.Proofs.YtcpfcehfgenljaaDoor
end
