/- Part 5 of 5 of what the row of PoolRead stands on: contracts over the given program's functions, the plain law, the row; no condition beyond those that each theorem states. -/
import Derived.Test.YtkhbffjfclepfaaXPoolRead3
section
namespace Go.Proofs.Ytkhbffjfclepfaa.Q
open Go.RowKit Go.Proofs.YtkhbffjfclepfaaW.PrintWords Go.Proofs.YtkhbffjfclepfaaW.PrintLast Go.Proofs.YtkhbffjfclepfaaW.PrintMore
set_option linter.unusedVariables false
set_option linter.unusedSimpArgs false
mutual
def a_f.j2 : Nat → List Int → Option (Bool)
 | 0,_ => none
 | k + 1,x1 => if 0 ≤ (mn (x1.length : Int) 300) then (if (mn (x1.length : Int) 300) ≤ (x1.length : Int) then ((some (x1.take ((mn (x1.length : Int) 300) : Int).toNat : List Int)).bind fun y458 => ((a_o.f k y458).bind fun bt463 => (if bt463.2 = 0 then ((a_r.f k bt463.1).bind fun bt468 => (if bt468.2 = 0 then ((bytes_Equal.f bt468.1 y458).bind fun t472 => (some t472)) else (some false))) else (if (bt463.1.length : Int) = 0 then (if bt463.2 = 7 then (some true) else (some (bt463.2 == 180))) else (some false))))) else (none)) else (none)
def a_f.j0 : Nat → List Int → List Int → Bool → Option (Bool)
 | 0,_,_,_ => none
 | k + 1,x1,x6,x37 => if x37 = true then (some false) else (a_f.l0 k x1 x6 (x6.length : Int) 0)
def a_f.l0 : Nat → List Int → List Int → Int → Int → Option (Bool)
 | 0,_,_,_,_ => none
 | k + 1,x1,x6,x39,x40 => if x40 < x39 then (if 0 ≤ x40 then (if x40 ≤ (x6.length : Int) then ((a_o.f k (x6.take (x40 : Int).toNat)).bind fun bt453 => (if bt453.2 = 7 then (a_f.l0 k x1 x6 x39 (wrap64 (x40 + 1))) else (some false))) else (none)) else (none)) else (a_f.j2 k x1)
end
def a_f.f (k : Nat) (l0_0 : List Int) (l1 : List Int) : Option (Bool):=(a_u.f k).bind fun t434 => (if t434 = true then ((a_M.f l0_0).bind fun t435 => ((a_r.f k t435).bind fun bt439 => (if bt439.2 = 0 then ((a_o.f k bt439.1).bind fun bt443 => (if bt443.2 = 0 then ((a_S.f k t435 bt443.1).bind fun t448 => (a_f.j0 k l1 bt439.1 (!t448))) else (a_f.j0 k l1 bt439.1 true))) else (a_f.j2 k l1)))) else (some false))
theorem a_f.b_0 : ∀ k,(∀ y0,LeO (a_f.j2 k y0) (a_f.j2 (k + 1) y0)) ∧ (∀ y0 y1 y2,LeO (a_f.j0 k y0 y1 y2) (a_f.j0 (k + 1) y0 y1 y2)) ∧ (∀ y0 y1 y2 y3,LeO (a_f.l0 k y0 y1 y2 y3) (a_f.l0 (k + 1) y0 y1 y2 y3))
 | 0 => ⟨fun _ r h => by simp [a_f.j2] at h,fun _ _ _ r h => by simp [a_f.j0] at h,fun _ _ _ _ r h => by simp [a_f.l0] at h⟩
 | k + 1 => by
  obtain ⟨ih0,ih1,ih2⟩:=a_f.b_0 k
  refine ⟨?_,?_,?_⟩
  ·intro y0
   unfold a_f.j2
   repeat' first
   | (with_reducible exact ih0 _)
   | (with_reducible exact ih1 _ _ _)
   | (with_reducible exact ih2 _ _ _ _)
   | (with_reducible exact a_u.mono _)
   | (with_reducible exact a_o.mono _ _)
   | (with_reducible exact a_r.mono _ _)
   | (with_reducible exact a_S.mono _ _ _)
   | (with_reducible exact LeO.refl _)
   | (with_reducible exact LeO.none _)
   | (with_reducible refine LeO.ite ?_ ?_)
   | (with_reducible refine LeO.bind ?_ (fun _ => ?_))
   | exact ih0 _
   | exact ih1 _ _ _
   | exact ih2 _ _ _ _
   | exact a_u.mono _
   | exact a_o.mono _ _
   | exact a_r.mono _ _
   | exact a_S.mono _ _ _
   | exact LeO.none _
   | refine LeO.ite ?_ ?_
   | refine LeO.bind ?_ (fun _ => ?_)
  ·intro y0 y1 y2
   unfold a_f.j0
   repeat' first
   | (with_reducible exact ih0 _)
   | (with_reducible exact ih1 _ _ _)
   | (with_reducible exact ih2 _ _ _ _)
   | (with_reducible exact a_u.mono _)
   | (with_reducible exact a_o.mono _ _)
   | (with_reducible exact a_r.mono _ _)
   | (with_reducible exact a_S.mono _ _ _)
   | (with_reducible exact LeO.refl _)
   | (with_reducible exact LeO.none _)
   | (with_reducible refine LeO.ite ?_ ?_)
   | (with_reducible refine LeO.bind ?_ (fun _ => ?_))
   | exact ih0 _
   | exact ih1 _ _ _
   | exact ih2 _ _ _ _
   | exact a_u.mono _
   | exact a_o.mono _ _
   | exact a_r.mono _ _
   | exact a_S.mono _ _ _
   | exact LeO.none _
   | refine LeO.ite ?_ ?_
   | refine LeO.bind ?_ (fun _ => ?_)
  ·intro y0 y1 y2 y3
   unfold a_f.l0
   repeat' first
   | (with_reducible exact ih0 _)
   | (with_reducible exact ih1 _ _ _)
   | (with_reducible exact ih2 _ _ _ _)
   | (with_reducible exact a_u.mono _)
   | (with_reducible exact a_o.mono _ _)
   | (with_reducible exact a_r.mono _ _)
   | (with_reducible exact a_S.mono _ _ _)
   | (with_reducible exact LeO.refl _)
   | (with_reducible exact LeO.none _)
   | (with_reducible refine LeO.ite ?_ ?_)
   | (with_reducible refine LeO.bind ?_ (fun _ => ?_))
   | exact ih0 _
   | exact ih1 _ _ _
   | exact ih2 _ _ _ _
   | exact a_u.mono _
   | exact a_o.mono _ _
   | exact a_r.mono _ _
   | exact a_S.mono _ _ _
   | exact LeO.none _
   | refine LeO.ite ?_ ?_
   | refine LeO.bind ?_ (fun _ => ?_)
theorem a_f.mono : ∀ a0 a1 k,LeO (a_f.f k a0 a1) (a_f.f (k + 1) a0 a1):=by
 intro a0 a1 k
 obtain ⟨ih0,ih1,ih2⟩:=a_f.b_0 k
 unfold a_f.f
 repeat' first
  | (with_reducible exact ih0 _)
  | (with_reducible exact ih1 _ _ _)
  | (with_reducible exact ih2 _ _ _ _)
  | (with_reducible exact a_u.mono _)
  | (with_reducible exact a_o.mono _ _)
  | (with_reducible exact a_r.mono _ _)
  | (with_reducible exact a_S.mono _ _ _)
  | (with_reducible exact LeO.refl _)
  | (with_reducible exact LeO.none _)
  | (with_reducible refine LeO.ite ?_ ?_)
  | (with_reducible refine LeO.bind ?_ (fun _ => ?_))
  | exact ih0 _
  | exact ih1 _ _ _
  | exact ih2 _ _ _ _
  | exact a_u.mono _
  | exact a_o.mono _ _
  | exact a_r.mono _ _
  | exact a_S.mono _ _ _
  | exact LeO.none _
  | refine LeO.ite ?_ ?_
  | refine LeO.bind ?_ (fun _ => ?_)
set_option maxHeartbeats 8000000 in
set_option maxRecDepth 100000 in
theorem a_f.calls (k : Nat) (A0_0 : Option Addr) (c0_0 : Nat) (l0_0 : List Int) (P1_ : Nat → Prop) (A1 : Option Addr) (c1 : Nat) (l1 : List Int) (r : Bool) (w : World) (hr0_0 : Kd.C (Kd.int .u32) w A0_0 l0_0.length l0_0) (hc0_0 : l0_0.length ≤ c0_0) (hs1 : Kd.V (Kd.int .u8) 5 w w.heap.size (fun k_ => P1_ k_) (.slice A1 l1.length c1) l1) (h : a_f.f k l0_0 l1 = some r) :
 Calls Try.prog 7 #[.agg #[.slice A0_0 l0_0.length c0_0],.slice A1 l1.length c1] w fun e w' => e = .returned (.bool r) ∧ Below w.heap.size w w':=by
 have hu26:=Try.underlying26
 have b_X:=a_a.mk hr0_0
 have c_o:=a_a.mk hc0_0
 clear hr0_0 hc0_0
 have HO1:=a_a.mk (show Kd.V (Kd.int .u8) 5 w w.heap.size (fun k_ => (P1_ k_ ∨ w.heap.size ≤ k_)) (.slice A1 l1.length c1) l1 from Kd.b_C hs1 (fun k_ hk => .inl hk))
 have HB:=a_a.mk (Below.refl w.heap.size w)
 have H : ((a_u.f k).bind fun t434 => (if t434 = true then ((a_M.f l0_0).bind fun t435 => ((a_r.f k t435).bind fun bt439 => (if bt439.2 = 0 then ((a_o.f k bt439.1).bind fun bt443 => (if bt443.2 = 0 then ((a_S.f k t435 bt443.1).bind fun t448 => (a_f.j0 k l1 bt439.1 (!t448))) else (a_f.j0 k l1 bt439.1 true))) else (a_f.j2 k l1)))) else (some false))) = some r:=h
 clear h
 replace H:=Option.bind_eq_some_iff.mp H
 obtain ⟨t434,A30,H⟩:=H
 replace H : (if t434 = true then ((a_M.f l0_0).bind fun t435 => ((a_r.f k t435).bind fun bt439 => (if bt439.2 = 0 then ((a_o.f k bt439.1).bind fun bt443 => (if bt443.2 = 0 then ((a_S.f k t435 bt443.1).bind fun t448 => (a_f.j0 k l1 bt439.1 (!t448))) else (a_f.j0 k l1 bt439.1 true))) else (a_f.j2 k l1)))) else (some false)) = some r:=H
 have A3:=a_a.mk A30
 clear A30
 by_cases c4 : t434 = true
 rotate_left
 ·replace c4:=Bool.eq_false_iff.mpr c4
  subst c4
  have H1 : (some false) = some r:=by rw [if_neg (show ¬ (false = true) by decide)] at H;exact H
  clear H
  have H:=H1
  clear H1
  obtain rfl:=Option.some.inj H
  go_enter Try.func7,Try.ntmps7
  go_wp2_with (first|((with_reducible refine a_t (N:=2) rfl ?_);refine a_s ?hg (N:=2) ?hd (cs:=#[.slice A0_0 l0_0.length c0_0]) (t:=26) ?hr ?_;(case hd => rfl);(case hg => rfl);(case hr => first|(go_simp;done)|(go_simp;rfl));intro b_Z hg w100 hbox hb;have b_j:=a_a.mk (hbox);have i_d:=a_a.mk ((by rw [hg];exact (a_l (lup_ HB.out)) : w.heap.size ≤ b_Z));have b_m:=a_a.mk ((by rw [hg];exact (a_l (lup_ HB.out)) : w.heap.size ≤ b_Z));replace HO1:=a_a.mk (Kd.b_o (Kd.b_g (by (with_reducible repeat (first|apply Kd.a_J|apply Kd.a_K|apply Kd.a_1));exact HO1.out) b_Z (Nat.le_of_eq hg.symm)) hb);replace HB:=a_a.mk (a_h (lup_ HB.out) hb);clear hb hbox hg)|((with_reducible refine a_y (f:=9) rfl ?_);refine a_9 (some 14) rfl rfl Try.func9 (by kernel_rfl) rfl #[] rfl (by (try simp only [List.map_toArray,List.map_cons,List.map_nil]);first|done|rfl|(simp only [List.length_drop,List.length_take];rfl)) ?_;(with_reducible refine (a_u.calls k  false _ A3.out).mono ?_);rintro e w101 ⟨rfl,hb⟩;refine ⟨_,rfl,?_⟩;replace HO1:=a_a.mk (Kd.b_o (by (with_reducible repeat (first|apply Kd.a_J|apply Kd.a_K|apply Kd.a_1));exact HO1.out) hb);replace b_j:=a_a.mk (a_d (bup_ b_j.out) hb);replace HB:=a_a.mk (a_h (by repeat (first|(with_reducible first|exact HB.out|apply a_e|apply a_b|apply a_g|refine a_c ?_ b_m.out)|exact HB.out)) hb);(try clear hb);(try clear hb2);(try clear hk);(try clear hi)))
  go_ret
  exact ⟨by first|rfl|(simp [a_w,a_v] <;> rfl)|(simp [*, a_w,a_v] <;> rfl),by repeat (first|(with_reducible first|exact HB.out|apply a_e|apply a_b|apply a_g|refine a_c ?_ b_m.out)|exact HB.out)⟩
 subst c4
 have H1 : ((a_M.f l0_0).bind fun t435 => ((a_r.f k t435).bind fun bt439 => (if bt439.2 = 0 then ((a_o.f k bt439.1).bind fun bt443 => (if bt443.2 = 0 then ((a_S.f k t435 bt443.1).bind fun t448 => (a_f.j0 k l1 bt439.1 (!t448))) else (a_f.j0 k l1 bt439.1 true))) else (a_f.j2 k l1)))) = some r:=by rw [if_pos rfl] at H;exact H
 clear H
 have H:=H1
 clear H1
 replace H:=Option.bind_eq_some_iff.mp H
 obtain ⟨t435,A50,H⟩:=H
 replace H : ((a_r.f k t435).bind fun bt439 => (if bt439.2 = 0 then ((a_o.f k bt439.1).bind fun bt443 => (if bt443.2 = 0 then ((a_S.f k t435 bt443.1).bind fun t448 => (a_f.j0 k l1 bt439.1 (!t448))) else (a_f.j0 k l1 bt439.1 true))) else (a_f.j2 k l1))) = some r:=H
 have A5:=a_a.mk A50
 clear A50
 replace H:=Option.bind_eq_some_iff.mp H
 obtain ⟨⟨t439,t442⟩,A60,H⟩:=H
 replace H : (if t442 = 0 then ((a_o.f k t439).bind fun bt443 => (if bt443.2 = 0 then ((a_S.f k t435 bt443.1).bind fun t448 => (a_f.j0 k l1 t439 (!t448))) else (a_f.j0 k l1 t439 true))) else (a_f.j2 k l1)) = some r:=H
 have A6:=a_a.mk A60
 clear A60
 have HC7:=a_a.mk H
 clear H
 go_enter Try.func7,Try.ntmps7
 go_upto_if 24 with (first|((with_reducible refine a_t (N:=2) rfl ?_);refine a_s ?hg (N:=2) ?hd (cs:=#[.slice A0_0 l0_0.length c0_0]) (t:=26) ?hr ?_;(case hd => rfl);(case hg => rfl);(case hr => first|(go_simp;done)|(go_simp;rfl));intro b_Z hg w8 hbox hb;have b_j:=a_a.mk (hbox);have i_d:=a_a.mk ((by rw [hg];exact (a_l (lup_ HB.out)) : w.heap.size ≤ b_Z));have b_m:=a_a.mk ((by rw [hg];exact (a_l (lup_ HB.out)) : w.heap.size ≤ b_Z));replace HO1:=a_a.mk (Kd.b_o (Kd.b_g (by (with_reducible repeat (first|apply Kd.a_J|apply Kd.a_K|apply Kd.a_1));exact HO1.out) b_Z (Nat.le_of_eq hg.symm)) hb);replace HB:=a_a.mk (a_h (lup_ HB.out) hb);clear hb hbox hg)|((with_reducible refine a_y (f:=9) rfl ?_);refine a_9 (some 14) rfl rfl Try.func9 (by kernel_rfl) rfl #[] rfl (by (try simp only [List.map_toArray,List.map_cons,List.map_nil]);first|done|rfl|(simp only [List.length_drop,List.length_take];rfl)) ?_;(with_reducible refine (a_u.calls k  true _ A3.out).mono ?_);rintro e w9 ⟨rfl,hb⟩;refine ⟨_,rfl,?_⟩;replace HO1:=a_a.mk (Kd.b_o (by (with_reducible repeat (first|apply Kd.a_J|apply Kd.a_K|apply Kd.a_1));exact HO1.out) hb);replace b_j:=a_a.mk (a_d (bup_ b_j.out) hb);replace HB:=a_a.mk (a_h (by repeat (first|(with_reducible first|exact HB.out|apply a_e|apply a_b|apply a_g|refine a_c ?_ b_m.out)|exact HB.out)) hb);(try clear hb);(try clear hb2);(try clear hk);(try clear hi);have c_X : w9.cell? ⟨b_Z,0,none⟩ = some (.slice A0_0 l0_0.length c0_0):=(a_k b_j.out 0).trans rfl;have c_Y:=a_i b_j.out 0)|((with_reducible refine a_y (f:=11) rfl ?_);refine a_9 (some 17) rfl rfl Try.func11 (by kernel_rfl) rfl #[.agg #[.slice A0_0 l0_0.length c0_0]] rfl (by (try simp only [List.map_toArray,List.map_cons,List.map_nil]);first|done|rfl|(simp only [List.length_drop,List.length_take];rfl)) ?_;(with_reducible refine (a_M.calls _ _ l0_0 t435 _ ?side1 ?side2 A5.out).mono ?_);(case side1 => repeat (first|exact (Kd.a_L b_X.out HB.out)|(with_reducible refine Kd.a_R ?_ _)|(with_reducible refine Kd.a_V ?_ _)|(with_reducible refine Kd.a_3 ?_)));(case side2 => exact c_o.out);rintro e w11 ⟨v436,rfl,ho0,hb⟩;refine ⟨_,rfl,?_⟩;have c_g:=a_a.mk (Kd.a_Z (Kd.c_h (M:=fun k_ => (w.heap.size ≤ k_)) ho0 (a_l (by repeat (first|(with_reducible first|exact HB.out|apply a_e|apply a_b|apply a_g|refine a_c ?_ b_m.out)|exact HB.out))) (fun k_ h_ => h_)) (a_l (by repeat (first|(with_reducible first|exact HB.out|apply a_e|apply a_b|apply a_g|refine a_c ?_ b_m.out)|exact HB.out))));replace HO1:=a_a.mk (Kd.b_c (by (with_reducible repeat (first|apply Kd.a_J|apply Kd.a_K|apply Kd.a_1));exact HO1.out) (Kd.a_6 ho0) hb);replace b_j:=a_a.mk (a_d (bup_ b_j.out) hb);replace HB:=a_a.mk (a_h (by repeat (first|(with_reducible first|exact HB.out|apply a_e|apply a_b|apply a_g|refine a_c ?_ b_m.out)|exact HB.out)) hb);(try clear hb);(try clear hb2);(try clear hk);(try clear hi);(try clear ho0))|((with_reducible refine a_t (N:=5) rfl ?_);refine a_s ?hg (N:=5) ?hd (cs:=#[.slice none 0 0]) (t:=26) ?hr ?_;(case hd => rfl);(case hg => rfl);(case hr => first|(go_simp;done)|(go_simp;rfl));intro b_r hg w12 hbox hb;have a_X:=a_a.mk (hbox);have i_T:=a_a.mk ((by rw [hg];exact (a_l (by repeat (first|(with_reducible first|exact HB.out|apply a_e|apply a_b|apply a_g|refine a_c ?_ b_m.out)|exact HB.out))) : w.heap.size ≤ b_r));have a_Y:=a_a.mk ((by rw [hg];exact (a_l (by repeat (first|(with_reducible first|exact HB.out|apply a_e|apply a_b|apply a_g|refine a_c ?_ b_m.out)|exact HB.out))) : w.heap.size ≤ b_r));have d_k:=a_a.mk ((by rw [hg];exact Nat.ne_of_lt (a_j (bup_ b_j.out)) : b_Z ≠ b_r));have e_f:=a_a.mk ((by rw [hg];exact Nat.ne_of_gt (a_j (bup_ b_j.out)) : b_r ≠ b_Z));replace HO1:=a_a.mk (Kd.b_o (Kd.b_g (by (with_reducible repeat (first|apply Kd.a_J|apply Kd.a_K|apply Kd.a_1));exact HO1.out) b_r (Nat.le_of_eq hg.symm)) hb);replace c_g:=a_a.mk (Kd.a_B (rup_ c_g.out) hb);replace b_j:=a_a.mk (a_d (bup_ b_j.out) hb);replace HB:=a_a.mk (a_h (by repeat (first|(with_reducible first|exact HB.out|apply a_e|apply a_b|apply a_g|refine a_c ?_ b_m.out)|exact HB.out)) hb);clear hb hbox hg;obtain ⟨Ao13,co13,eo13⟩:=Kd.a_U c_g.out;subst eo13;have i_U:=e_f.out;have i_V:=d_k.out;have e_y : w12.cell? ⟨b_r,0,none⟩ = some (.slice none 0 0):=(a_k a_X.out 0).trans rfl;have e_z:=a_i a_X.out 0)|((with_reducible refine a_y (f:=24) rfl ?_);refine a_9 (some 20) rfl rfl Try.func24 (by kernel_rfl) rfl #[.agg #[.slice Ao13 t435.length co13]] rfl (by (try simp only [List.map_toArray,List.map_cons,List.map_nil]);first|done|rfl|(simp only [List.length_drop,List.length_take];rfl)) ?_;(with_reducible refine (a_r.calls k _ _ t435 t439 t442 _ ?side1 ?side2 A6.out).mono ?_);(case side1 => refine (Kd.a_z (e:=31) (base:=w.heap.size) (ok:=fun k_ => ((w.heap.size ≤ k_) ∧ True)) (n:=t435.length) (c:=co13) ?_).2.2;exact (by (with_reducible repeat (first|apply Kd.a_E|apply Kd.a_D|apply Kd.a_H));exact (Kd.a_Q (Kd.b_l (p:=⟨b_r,0,none⟩) (Kd.a_O c_g.out a_X.out (by decide)) (fun _ hk => hk.2) (.slice Ao13 t435.length co13)) (fun _ h_ => h_.1))));(case side2 => exact (Kd.a_z c_g.out).2.1);rintro e w16 ⟨v440,rfl,ho0,hb⟩;refine ⟨_,rfl,?_⟩;have d_l:=a_a.mk (Kd.a_Z (Kd.c_h (M:=fun k_ => (w.heap.size ≤ k_)) ho0 (a_l (by repeat (first|(with_reducible first|exact HB.out|apply a_e|apply a_b|apply a_g|refine a_c ?_ b_m.out|refine a_c ?_ a_Y.out)|exact HB.out))) (fun k_ h_ => h_)) (a_l (by repeat (first|(with_reducible first|exact HB.out|apply a_e|apply a_b|apply a_g|refine a_c ?_ b_m.out|refine a_c ?_ a_Y.out)|exact HB.out))));replace HO1:=a_a.mk (Kd.b_c (by (with_reducible repeat (first|apply Kd.a_J|apply Kd.a_K|apply Kd.a_1));exact (Kd.b_C (Kd.d_1 (p:=⟨b_r,0,none⟩) (Kd.b_C HO1.out (fun k_ hk => (⟨hk,hk.2⟩ : _ ∧ k_ ≠ b_r))) (fun _ hk => hk.2) (.slice Ao13 t435.length co13)) (fun _ h_ => h_.1))) (Kd.a_6 ho0) hb);replace c_g:=a_a.mk (Kd.a_B (by (with_reducible repeat (first|apply Kd.a_E|apply Kd.a_D|apply Kd.a_H));exact (Kd.a_Q (Kd.b_l (p:=⟨b_r,0,none⟩) (Kd.a_O c_g.out a_X.out (by decide)) (fun _ hk => hk.2) (.slice Ao13 t435.length co13)) (fun _ h_ => h_.1))) hb);replace b_j:=a_a.mk (a_d (g:=b_Z) (o:=.cells #[.slice A0_0 l0_0.length c0_0] 26 (0,0)) (by (with_reducible repeat (first|refine a_p ?_ _|refine a_n ?_|refine a_q ?_ _));refine a_x ?_ d_k.out _;(with_reducible repeat (first|refine a_p ?_ _|refine a_n ?_|refine a_q ?_ _));exact b_j.out) hb);replace a_X:=a_a.mk (a_d (g:=b_r) (o:=.cells #[.slice Ao13 t435.length co13] 26 (0,0)) (by (with_reducible repeat (first|refine a_p ?_ _|refine a_n ?_|refine a_q ?_ _));refine a_I (cs:=#[.slice none 0 0]) ?_ 0 _ rfl;(with_reducible repeat (first|refine a_p ?_ _|refine a_n ?_|refine a_q ?_ _));exact a_X.out) hb);replace HB:=a_a.mk (a_h (by repeat (first|(with_reducible first|exact HB.out|apply a_e|apply a_b|apply a_g|refine a_c ?_ b_m.out|refine a_c ?_ a_Y.out)|exact HB.out)) hb);(try clear hb);(try clear hb2);(try clear hk);(try clear hi);(try clear ho0)))
 (try simp only [Act.put,List.setIfInBounds_toArray,List.set_cons_zero,List.set_cons_succ])
 go_cut [] (fun wc => ∃ (kq : Nat),a_a (a_f.j2 kq l1 = some r) ∧ a_a (kq ≤ k) ∧ a_a (Kd.V (Kd.int .u8) 5 wc w.heap.size (fun k_ => (P1_ k_ ∨ w.heap.size ≤ k_) ∧ some k_ ≠ ((.slice Ao13 t435.length co13) : Value).ownBlock ∧ k_ ≠ b_r) (.slice A1 l1.length c1) l1) ∧ a_a (Kd.R (Kd.int .u32) 31 wc w.heap.size (fun k_ => (w.heap.size ≤ k_)) (.slice Ao13 t435.length co13) t435) ∧ a_a (wc.heap[b_r]? = some (.cells #[(.slice Ao13 t435.length co13)] 26 (0,0))) ∧ a_a (Below w.heap.size w wc))
 case first =>
  have H:=HC7.out
  clear HC7
  by_cases c17 : t442 = 0
  rotate_left
  ·rw [if_neg c17] at H
   have c17b0 : (t442 == 0) = false:=beq_eq_false_iff_ne.mpr c17
   have c17b1 : (t442 != 0) = true:=bne_iff_ne.mpr c17
   (first|rw [c17b0]|(simp only [d_V,d_7];rw [c17b0])|skip)
   have H':=a_a.mk H
   clear H
   go_wp2
   go_meet
   case rel => exact ⟨_,H',⟨by first|omega|exact Nat.le_refl _⟩,⟨by (with_reducible repeat (first|apply Kd.a_J|apply Kd.a_K|apply Kd.a_1));exact Kd.b_C HO1.out (fun _ hk => ⟨hk.1.1.1.1,⟨hk.1.1.2,hk.1.2⟩⟩)⟩,⟨by (with_reducible repeat (first|apply Kd.a_E|apply Kd.a_D|apply Kd.a_H));exact Kd.a_Q c_g.out (fun _ hk => hk.1)⟩,⟨by (with_reducible repeat (first|refine a_p ?_ _|refine a_n ?_|refine a_q ?_ _));exact a_X.out⟩,⟨by repeat (first|(with_reducible first|exact HB.out|apply a_e|apply a_b|apply a_g|refine a_c ?_ b_m.out|refine a_c ?_ a_Y.out)|exact HB.out)⟩⟩
  rw [if_pos c17] at H
  have c17b0 : (t442 == 0) = true:=beq_iff_eq.mpr c17
  have c17b1 : (t442 != 0) = false:=bne_eq_false_iff_eq.mpr c17
  clear c17
  (first|rw [c17b0]|(simp only [d_V,d_7];rw [c17b0])|skip)
  replace H:=Option.bind_eq_some_iff.mp H
  obtain ⟨⟨t443,t446⟩,A180,H⟩:=H
  replace H : (if t446 = 0 then ((a_S.f k t435 t443).bind fun t448 => (a_f.j0 k l1 t439 (!t448))) else (a_f.j0 k l1 t439 true)) = some r:=H
  have A18:=a_a.mk A180
  clear A180
  have HC19:=a_a.mk H
  clear H
  obtain ⟨Ao20,co20,eo20⟩:=Kd.a_U d_l.out
  subst eo20
  go_upto_region 7 with (first|((with_reducible refine a_y (f:=27) rfl ?_);refine a_9 (some 27) rfl rfl Try.func27 (by kernel_rfl) rfl #[.slice Ao20 t439.length co20] rfl (by (try simp only [List.map_toArray,List.map_cons,List.map_nil]);first|done|rfl|(simp only [List.length_drop,List.length_take];rfl)) ?_;(with_reducible refine (a_o.calls k _ _ t439 t443 t446 _ ?side1 ?side2 A18.out).mono ?_);(case side1 => repeat (first|exact (Kd.a_z d_l.out).2.2|(with_reducible refine Kd.a_R ?_ _)|(with_reducible refine Kd.a_V ?_ _)|(with_reducible refine Kd.a_3 ?_)));(case side2 => exact (Kd.a_z d_l.out).2.1);rintro e w21 ⟨v444,rfl,ho0,hb⟩;refine ⟨_,rfl,?_⟩;have d_P:=a_a.mk (Kd.a_Z (Kd.b_S (Kd.c_h (M:=fun k_ => (w.heap.size ≤ k_)) ho0 (a_l (by repeat (first|(with_reducible first|exact HB.out|apply a_e|apply a_b|apply a_g|refine a_c ?_ b_m.out|refine a_c ?_ a_Y.out)|exact HB.out))) (fun k_ h_ => h_)) (Kd.R_lt (rup_ c_g.out))) (a_l (by repeat (first|(with_reducible first|exact HB.out|apply a_e|apply a_b|apply a_g|refine a_c ?_ b_m.out|refine a_c ?_ a_Y.out)|exact HB.out))));replace HO1:=a_a.mk (Kd.b_c (by (with_reducible repeat (first|apply Kd.a_J|apply Kd.a_K|apply Kd.a_1));exact HO1.out) (Kd.a_6 ho0) hb);replace c_g:=a_a.mk (Kd.b_h (rup_ c_g.out) (Kd.a_6 ho0) hb);replace d_l:=a_a.mk (Kd.a_B (rup_ d_l.out) hb);replace b_j:=a_a.mk (a_d (bup_ b_j.out) hb);replace a_X:=a_a.mk (a_d (bup_ a_X.out) hb);replace HB:=a_a.mk (a_h (by repeat (first|(with_reducible first|exact HB.out|apply a_e|apply a_b|apply a_g|refine a_c ?_ b_m.out|refine a_c ?_ a_Y.out)|exact HB.out)) hb);(try clear hb);(try clear hb2);(try clear hk);(try clear hi);(try clear ho0))|((with_reducible refine a_t (N:=8) rfl ?_);refine a_s ?hg (N:=8) ?hd (cs:=#[.slice none 0 0]) (t:=26) ?hr ?_;(case hd => rfl);(case hg => rfl);(case hr => first|(go_simp;done)|(go_simp;rfl));intro b_E hg w22 hbox hb;have b_A:=a_a.mk (hbox);have i_W:=a_a.mk ((by rw [hg];exact (a_l (by repeat (first|(with_reducible first|exact HB.out|apply a_e|apply a_b|apply a_g|refine a_c ?_ b_m.out|refine a_c ?_ a_Y.out)|exact HB.out))) : w.heap.size ≤ b_E));have c_c:=a_a.mk ((by rw [hg];exact (a_l (by repeat (first|(with_reducible first|exact HB.out|apply a_e|apply a_b|apply a_g|refine a_c ?_ b_m.out|refine a_c ?_ a_Y.out)|exact HB.out))) : w.heap.size ≤ b_E));have c_P:=a_a.mk ((by rw [hg];exact Nat.ne_of_lt (a_j (bup_ b_j.out)) : b_Z ≠ b_E));have e_g:=a_a.mk ((by rw [hg];exact Nat.ne_of_gt (a_j (bup_ b_j.out)) : b_E ≠ b_Z));have c_Q:=a_a.mk ((by rw [hg];exact Nat.ne_of_lt (a_j (bup_ a_X.out)) : b_r ≠ b_E));have e_h:=a_a.mk ((by rw [hg];exact Nat.ne_of_gt (a_j (bup_ a_X.out)) : b_E ≠ b_r));replace HO1:=a_a.mk (Kd.b_o (Kd.b_g (by (with_reducible repeat (first|apply Kd.a_J|apply Kd.a_K|apply Kd.a_1));exact HO1.out) b_E (Nat.le_of_eq hg.symm)) hb);replace c_g:=a_a.mk (Kd.a_B (rup_ c_g.out) hb);replace d_l:=a_a.mk (Kd.a_B (rup_ d_l.out) hb);replace d_P:=a_a.mk (Kd.a_B (rup_ d_P.out) hb);replace b_j:=a_a.mk (a_d (bup_ b_j.out) hb);replace a_X:=a_a.mk (a_d (bup_ a_X.out) hb);replace HB:=a_a.mk (a_h (by repeat (first|(with_reducible first|exact HB.out|apply a_e|apply a_b|apply a_g|refine a_c ?_ b_m.out|refine a_c ?_ a_Y.out)|exact HB.out)) hb);clear hb hbox hg;obtain ⟨Ao23,co23,eo23⟩:=Kd.a_U d_P.out;subst eo23;have h_y:=e_g.out;have h_z:=c_P.out;have h_S:=e_h.out;have h_T:=c_Q.out;have d_M : w22.cell? ⟨b_E,0,none⟩ = some (.slice none 0 0):=(a_k b_A.out 0).trans rfl;have d_N:=a_i b_A.out 0))
  (try simp only [Act.put,List.setIfInBounds_toArray,List.set_cons_zero,List.set_cons_succ])
  go_cut [37] (fun v37 wc => ∃ (kq : Nat) (x37_18 : Bool),v37 = .bool x37_18 ∧ a_a (a_f.j0 kq l1 t439 x37_18 = some r) ∧ a_a (kq ≤ k) ∧ a_a (Kd.V (Kd.int .u8) 5 wc w.heap.size (fun k_ => (P1_ k_ ∨ w.heap.size ≤ k_) ∧ some k_ ≠ ((.slice Ao20 t439.length co20) : Value).ownBlock ∧ some k_ ≠ ((.slice Ao13 t435.length co13) : Value).ownBlock ∧ some k_ ≠ ((.slice Ao23 t443.length co23) : Value).ownBlock ∧ k_ ≠ b_Z ∧ k_ ≠ b_r ∧ k_ ≠ b_E) (.slice A1 l1.length c1) l1) ∧ a_a (Kd.R (Kd.int .u8) 5 wc w.heap.size (fun k_ => (w.heap.size ≤ k_)) (.slice Ao20 t439.length co20) t439) ∧ a_a (Kd.R (Kd.int .u32) 31 wc w.heap.size (fun k_ => (w.heap.size ≤ k_) ∧ some k_ ≠ ((.slice Ao23 t443.length co23) : Value).ownBlock) (.slice Ao13 t435.length co13) t435) ∧ a_a (Kd.R (Kd.int .u32) 31 wc w.heap.size (fun k_ => (w.heap.size ≤ k_) ∧ some k_ ≠ ((.slice Ao13 t435.length co13) : Value).ownBlock) (.slice Ao23 t443.length co23) t443) ∧ a_a (wc.heap[b_Z]? = some (.cells #[(.slice A0_0 l0_0.length c0_0)] 26 (0,0))) ∧ a_a (wc.heap[b_r]? = some (.cells #[(.slice Ao13 t435.length co13)] 26 (0,0))) ∧ a_a (wc.heap[b_E]? = some (.cells #[(.slice Ao23 t443.length co23)] 26 (0,0))) ∧ a_a (Below w.heap.size w wc))
  case first =>
   have H:=HC19.out
   clear HC19
   by_cases c27 : t446 = 0
   rotate_left
   ·rw [if_neg c27] at H
    have c27b0 : (t446 == 0) = false:=beq_eq_false_iff_ne.mpr c27
    have c27b1 : (t446 != 0) = true:=bne_iff_ne.mpr c27
    (first|rw [c27b0]|(simp only [d_V,d_7];rw [c27b0])|skip)
    have H':=a_a.mk H
    clear H
    go_wp2
    go_meet
    case rel => exact ⟨_,(true),(by first|rfl|(simp;done)|(simp [*];done)),H',⟨by first|omega|exact Nat.le_refl _⟩,⟨by (with_reducible repeat (first|apply Kd.a_J|apply Kd.a_K|apply Kd.a_1));exact Kd.b_C (Kd.d_1 (p:=⟨b_E,0,none⟩) (Kd.b_C HO1.out (fun k_ hk => (⟨hk,hk.2⟩ : _ ∧ k_ ≠ b_E))) (fun _ hk => hk.2) (.slice Ao23 t443.length co23)) (fun _ hk => ⟨hk.1.1.1.1.1.1.1,⟨hk.1.1.1.2,⟨hk.1.1.1.1.1.2,⟨hk.1.1.2,⟨hk.1.1.1.1.1.1.2,⟨hk.1.1.1.1.2,hk.1.2⟩⟩⟩⟩⟩⟩)⟩,⟨by (with_reducible repeat (first|apply Kd.a_E|apply Kd.a_D|apply Kd.a_H));exact Kd.a_Q (Kd.b_l (p:=⟨b_E,0,none⟩) (Kd.a_O d_l.out b_A.out (by decide)) (fun _ hk => hk.2) (.slice Ao23 t443.length co23)) (fun _ hk => hk.1.1)⟩,⟨by (with_reducible repeat (first|apply Kd.a_E|apply Kd.a_D|apply Kd.a_H));exact Kd.a_Q (Kd.b_l (p:=⟨b_E,0,none⟩) (Kd.a_O c_g.out b_A.out (by decide)) (fun _ hk => hk.2) (.slice Ao23 t443.length co23)) (fun _ hk => ⟨hk.1.1.1,hk.1.2⟩)⟩,⟨by (with_reducible repeat (first|apply Kd.a_E|apply Kd.a_D|apply Kd.a_H));exact Kd.a_Q (Kd.b_l (p:=⟨b_E,0,none⟩) (Kd.a_O d_P.out b_A.out (by decide)) (fun _ hk => hk.2) (.slice Ao23 t443.length co23)) (fun _ hk => ⟨hk.1.1.1,hk.1.2⟩)⟩,⟨by (with_reducible repeat (first|refine a_p ?_ _|refine a_n ?_|refine a_q ?_ _));refine a_x ?_ c_P.out _;(with_reducible repeat (first|refine a_p ?_ _|refine a_n ?_|refine a_q ?_ _));exact b_j.out⟩,⟨by (with_reducible repeat (first|refine a_p ?_ _|refine a_n ?_|refine a_q ?_ _));refine a_x ?_ c_Q.out _;(with_reducible repeat (first|refine a_p ?_ _|refine a_n ?_|refine a_q ?_ _));exact a_X.out⟩,⟨by (with_reducible repeat (first|refine a_p ?_ _|refine a_n ?_|refine a_q ?_ _));refine a_I (cs:=#[.slice none 0 0]) ?_ 0 _ rfl;(with_reducible repeat (first|refine a_p ?_ _|refine a_n ?_|refine a_q ?_ _));exact b_A.out⟩,⟨by repeat (first|(with_reducible first|exact HB.out|apply a_e|apply a_b|apply a_g|refine a_c ?_ b_m.out|refine a_c ?_ a_Y.out|refine a_c ?_ c_c.out)|exact HB.out)⟩⟩
   rw [if_pos c27] at H
   have c27b0 : (t446 == 0) = true:=beq_iff_eq.mpr c27
   have c27b1 : (t446 != 0) = false:=bne_eq_false_iff_eq.mpr c27
   clear c27
   (first|rw [c27b0]|(simp only [d_V,d_7];rw [c27b0])|skip)
   replace H:=Option.bind_eq_some_iff.mp H
   obtain ⟨t448,A280,H⟩:=H
   replace H : (a_f.j0 k l1 t439 (!t448)) = some r:=H
   have A28:=a_a.mk A280
   clear A280
   have H':=a_a.mk H
   clear H
   have i_X:=e_f.out
   have i_Y:=d_k.out
   have i_Z:=c_Q.out
   have i_0:=e_h.out
   have e_A : w22.cell? ⟨b_r,0,none⟩ = some (.slice Ao13 t435.length co13):=(a_k a_X.out 0).trans rfl
   have e_B:=a_i a_X.out 0
   have h_X:=e_g.out
   have h_Y:=c_P.out
   have e_C : w22.cell? ⟨b_E,0,none⟩ = some (.slice none 0 0):=(a_k b_A.out 0).trans rfl
   have e_D:=a_i b_A.out 0
   go_wp2_with (first|(go_at_call 18;(with_reducible refine (a_S.calls k _ _ t435 _ _ t443 t448 _ ?side1 ?side2 ?side3 ?side4 A28.out).mono ?_);(case side1 => refine (Kd.a_z (e:=31) (base:=w.heap.size) (ok:=fun k_ => (((w.heap.size ≤ k_) ∧ True) ∧ some k_ ≠ (.slice Ao23 t443.length co23 : Value).ownBlock)) (n:=t435.length) (c:=co13) ?_).2.2;exact (by (with_reducible repeat (first|apply Kd.a_E|apply Kd.a_D|apply Kd.a_H));exact (Kd.a_Q (Kd.b_l (p:=⟨b_E,0,none⟩) (Kd.a_O c_g.out b_A.out (by decide)) (fun _ hk => hk.2) (.slice Ao23 t443.length co23)) (fun _ h_ => h_.1))));(case side2 => exact (Kd.a_z c_g.out).2.1);(case side3 => refine (Kd.a_z (e:=31) (base:=w.heap.size) (ok:=fun k_ => (((w.heap.size ≤ k_) ∧ True) ∧ some k_ ≠ (.slice Ao13 t435.length co13 : Value).ownBlock)) (n:=t443.length) (c:=co23) ?_).2.2;exact (by (with_reducible repeat (first|apply Kd.a_E|apply Kd.a_D|apply Kd.a_H));exact (Kd.a_Q (Kd.b_l (p:=⟨b_E,0,none⟩) (Kd.a_O d_P.out b_A.out (by decide)) (fun _ hk => hk.2) (.slice Ao23 t443.length co23)) (fun _ h_ => h_.1))));(case side4 => exact (Kd.a_z d_P.out).2.1);rintro e w34 ⟨rfl,hb⟩;replace HO1:=a_a.mk (Kd.b_o (by (with_reducible repeat (first|apply Kd.a_J|apply Kd.a_K|apply Kd.a_1));exact (Kd.b_C (Kd.d_1 (p:=⟨b_E,0,none⟩) (Kd.b_C HO1.out (fun k_ hk => (⟨hk,hk.2⟩ : _ ∧ k_ ≠ b_E))) (fun _ hk => hk.2) (.slice Ao23 t443.length co23)) (fun _ h_ => h_.1))) hb);replace c_g:=a_a.mk (Kd.a_B (by (with_reducible repeat (first|apply Kd.a_E|apply Kd.a_D|apply Kd.a_H));exact (Kd.a_Q (Kd.b_l (p:=⟨b_E,0,none⟩) (Kd.a_O c_g.out b_A.out (by decide)) (fun _ hk => hk.2) (.slice Ao23 t443.length co23)) (fun _ h_ => h_.1))) hb);replace d_l:=a_a.mk (Kd.a_B (by (with_reducible repeat (first|apply Kd.a_E|apply Kd.a_D|apply Kd.a_H));exact (Kd.a_Q (Kd.b_l (p:=⟨b_E,0,none⟩) (Kd.a_O d_l.out b_A.out (by decide)) (fun _ hk => hk.2) (.slice Ao23 t443.length co23)) (fun _ h_ => h_.1))) hb);replace d_P:=a_a.mk (Kd.a_B (by (with_reducible repeat (first|apply Kd.a_E|apply Kd.a_D|apply Kd.a_H));exact (Kd.a_Q (Kd.b_l (p:=⟨b_E,0,none⟩) (Kd.a_O d_P.out b_A.out (by decide)) (fun _ hk => hk.2) (.slice Ao23 t443.length co23)) (fun _ h_ => h_.1))) hb);replace b_j:=a_a.mk (a_d (g:=b_Z) (o:=.cells #[.slice A0_0 l0_0.length c0_0] 26 (0,0)) (by (with_reducible repeat (first|refine a_p ?_ _|refine a_n ?_|refine a_q ?_ _));refine a_x ?_ c_P.out _;(with_reducible repeat (first|refine a_p ?_ _|refine a_n ?_|refine a_q ?_ _));exact b_j.out) hb);replace a_X:=a_a.mk (a_d (g:=b_r) (o:=.cells #[.slice Ao13 t435.length co13] 26 (0,0)) (by (with_reducible repeat (first|refine a_p ?_ _|refine a_n ?_|refine a_q ?_ _));refine a_x ?_ c_Q.out _;(with_reducible repeat (first|refine a_p ?_ _|refine a_n ?_|refine a_q ?_ _));exact a_X.out) hb);replace b_A:=a_a.mk (a_d (g:=b_E) (o:=.cells #[.slice Ao23 t443.length co23] 26 (0,0)) (by (with_reducible repeat (first|refine a_p ?_ _|refine a_n ?_|refine a_q ?_ _));refine a_I (cs:=#[.slice none 0 0]) ?_ 0 _ rfl;(with_reducible repeat (first|refine a_p ?_ _|refine a_n ?_|refine a_q ?_ _));exact b_A.out) hb);replace HB:=a_a.mk (a_h (by repeat (first|(with_reducible first|exact HB.out|apply a_e|apply a_b|apply a_g|refine a_c ?_ b_m.out|refine a_c ?_ a_Y.out|refine a_c ?_ c_c.out)|exact HB.out)) hb);(try clear hb);(try clear hb2);(try clear hk);(try clear hi)))
   go_meet
   case rel => exact ⟨_,(!t448),(by first|rfl|(simp;done)|(simp [*];done)),H',⟨by first|omega|exact Nat.le_refl _⟩,⟨by (with_reducible repeat (first|apply Kd.a_J|apply Kd.a_K|apply Kd.a_1));exact Kd.b_C HO1.out (fun _ hk => ⟨hk.1.1.1.1.1.1,⟨hk.1.1.2,⟨hk.1.1.1.1.2,⟨hk.1.2,⟨hk.1.1.1.1.1.2,⟨hk.1.1.1.2,hk.2⟩⟩⟩⟩⟩⟩)⟩,⟨by (with_reducible repeat (first|apply Kd.a_E|apply Kd.a_D|apply Kd.a_H));exact Kd.a_Q d_l.out (fun _ hk => hk.1)⟩,⟨by (with_reducible repeat (first|apply Kd.a_E|apply Kd.a_D|apply Kd.a_H));exact Kd.a_Q c_g.out (fun _ hk => ⟨hk.1.1,hk.2⟩)⟩,⟨by (with_reducible repeat (first|apply Kd.a_E|apply Kd.a_D|apply Kd.a_H));exact Kd.a_Q d_P.out (fun _ hk => ⟨hk.1.1,hk.2⟩)⟩,⟨by (with_reducible repeat (first|refine a_p ?_ _|refine a_n ?_|refine a_q ?_ _));exact b_j.out⟩,⟨by (with_reducible repeat (first|refine a_p ?_ _|refine a_n ?_|refine a_q ?_ _));exact a_X.out⟩,⟨by (with_reducible repeat (first|refine a_p ?_ _|refine a_n ?_|refine a_q ?_ _));exact b_A.out⟩,⟨by repeat (first|(with_reducible first|exact HB.out|apply a_e|apply a_b|apply a_g|refine a_c ?_ b_m.out|refine a_c ?_ a_Y.out|refine a_c ?_ c_c.out)|exact HB.out)⟩⟩
  case rest =>
   clear HC19
   try clear c1
   try clear c2
   try clear p2
   try clear c3
   try clear c4
   try clear c7
   try clear c9
   try clear c11
   try clear c14
   try clear c17
   try clear c17b0
   try clear c17b1
   try clear c24
   try clear c25
   try clear c27
   try clear c27b0
   try clear c27b1
   try clear c29
   try clear c30
   try clear c32
   try clear c_X
   try clear e_y
   try clear d_M
   try clear e_A
   try clear e_C
   try clear c_Y
   try clear e_z
   try clear d_N
   try clear e_B
   try clear e_D
   obtain ⟨kq,x37_18,rfl,HA,HJ18,HO_1,HO_6,a_A,b_k,b_j,a_X,b_A,HB⟩:=hcut
   cases kq with
   | zero => exact absurd HA.out (by simp [a_f.j0])
   | succ kj18 =>
    have H:=HA.out
    clear HA
    simp only [a_f.j0] at H
    by_cases c35 : x37_18 = true
    ·subst c35
     have H1 : (some false) = some r:=by rw [if_pos rfl] at H;exact H
     clear H
     have H:=H1
     clear H1
     obtain rfl:=Option.some.inj H
     go_wp2
     go_ret
     exact ⟨by first|rfl|(simp [a_w,a_v] <;> rfl)|(simp [*, a_w,a_v] <;> rfl),by repeat (first|(with_reducible first|exact HB.out|apply a_e|apply a_b|apply a_g|refine a_c ?_ b_m.out|refine a_c ?_ a_Y.out|refine a_c ?_ c_c.out)|exact HB.out)⟩
    replace c35:=Bool.eq_false_iff.mpr c35
    subst c35
    have H1 : (a_f.l0 kj18 l1 t439 (t439.length : Int) 0) = some r:=by rw [if_neg (show ¬ (false = true) by decide)] at H;exact H
    clear H
    have H:=H1
    clear H1
    have H':=a_a.mk H
    clear H
    go_wp2
    go_loopg [40] kj18 (fun kq v40 w' => ∃ (x40_2 : Int),v40 = .int .i64 x40_2 ∧ a_a (a_f.l0 kq l1 t439 (t439.length : Int) x40_2 = some r) ∧ a_a (kq ≤ kj18) ∧ a_a (Kd.V (Kd.int .u8) 5 w' w.heap.size (fun k_ => (P1_ k_ ∨ w.heap.size ≤ k_) ∧ some k_ ≠ ((.slice Ao20 t439.length co20) : Value).ownBlock ∧ some k_ ≠ ((.slice Ao13 t435.length co13) : Value).ownBlock ∧ some k_ ≠ ((.slice Ao23 t443.length co23) : Value).ownBlock ∧ k_ ≠ b_Z ∧ k_ ≠ b_r ∧ k_ ≠ b_E) (.slice A1 l1.length c1) l1) ∧ a_a (Kd.R (Kd.int .u8) 5 w' w.heap.size (fun k_ => (w.heap.size ≤ k_)) (.slice Ao20 t439.length co20) t439) ∧ a_a (Kd.R (Kd.int .u32) 31 w' w.heap.size (fun k_ => (w.heap.size ≤ k_) ∧ some k_ ≠ ((.slice Ao23 t443.length co23) : Value).ownBlock) (.slice Ao13 t435.length co13) t435) ∧ a_a (Kd.R (Kd.int .u32) 31 w' w.heap.size (fun k_ => (w.heap.size ≤ k_) ∧ some k_ ≠ ((.slice Ao13 t435.length co13) : Value).ownBlock) (.slice Ao23 t443.length co23) t443) ∧ a_a (w'.heap[b_Z]? = some (.cells #[(.slice A0_0 l0_0.length c0_0)] 26 (0,0))) ∧ a_a (w'.heap[b_r]? = some (.cells #[(.slice Ao13 t435.length co13)] 26 (0,0))) ∧ a_a (w'.heap[b_E]? = some (.cells #[(.slice Ao23 t443.length co23)] 26 (0,0))) ∧ a_a (Below w.heap.size w w'))
    case atStart => exact ⟨(0),(by first|rfl|(simp;done)|(simp [*];done)),H',⟨Nat.le_refl _⟩,⟨by (with_reducible repeat (first|apply Kd.a_J|apply Kd.a_K|apply Kd.a_1));exact HO_1.out⟩,⟨by (with_reducible repeat (first|apply Kd.a_E|apply Kd.a_D|apply Kd.a_H));exact HO_6.out⟩,⟨by (with_reducible repeat (first|apply Kd.a_E|apply Kd.a_D|apply Kd.a_H));exact a_A.out⟩,⟨by (with_reducible repeat (first|apply Kd.a_E|apply Kd.a_D|apply Kd.a_H));exact b_k.out⟩,⟨by (with_reducible repeat (first|refine a_p ?_ _|refine a_n ?_|refine a_q ?_ _));exact b_j.out⟩,⟨by (with_reducible repeat (first|refine a_p ?_ _|refine a_n ?_|refine a_q ?_ _));exact a_X.out⟩,⟨by (with_reducible repeat (first|refine a_p ?_ _|refine a_n ?_|refine a_q ?_ _));exact b_A.out⟩,⟨by repeat (first|(with_reducible first|exact HB.out|apply a_e|apply a_b|apply a_g|refine a_c ?_ b_m.out|refine a_c ?_ a_Y.out|refine a_c ?_ c_c.out)|exact HB.out)⟩⟩
    case round =>
     clear H'
     try clear c1
     try clear c2
     try clear p2
     try clear c3
     try clear c4
     try clear c7
     try clear c9
     try clear c11
     try clear c14
     try clear c17
     try clear c17b0
     try clear c17b1
     try clear c24
     try clear c25
     try clear c27
     try clear c27b0
     try clear c27b1
     try clear c29
     try clear c30
     try clear c32
     try clear c35
     try clear c_X
     try clear e_y
     try clear d_M
     try clear e_A
     try clear e_C
     try clear c_Y
     try clear e_z
     try clear d_N
     try clear e_B
     try clear e_D
     try clear p2
     obtain ⟨x40_2,rfl,HA,HK2,HO_1,HO_6,a_A,b_k,b_j,a_X,b_A,HB⟩:=hrel
     cases gk with
     | zero => exact absurd HA.out (by simp [a_f.l0])
     | succ k2 =>
      have H:=HA.out
      clear HA
      simp only [a_f.l0] at H
      by_cases c36 : x40_2 < (t439.length : Int)
      rotate_left
      ·rw [if_neg c36] at H
       have c36b0 : decide (x40_2 < (t439.length : Int)) = false:=decide_eq_false c36
       clear c36
       have H':=a_a.mk H
       clear H
       go_wp2
       go_meet
       case rel => exact ⟨_,H',⟨by have:=HJ18.out;have:=HK2.out;first|omega|exact Nat.le_refl _⟩,⟨by (with_reducible repeat (first|apply Kd.a_J|apply Kd.a_K|apply Kd.a_1));exact Kd.b_C HO_1.out (fun _ hk => ⟨hk.1,⟨hk.2.2.1,hk.2.2.2.2.2.1⟩⟩)⟩,⟨by (with_reducible repeat (first|apply Kd.a_E|apply Kd.a_D|apply Kd.a_H));exact Kd.a_Q a_A.out (fun _ hk => hk.1)⟩,⟨by (with_reducible repeat (first|refine a_p ?_ _|refine a_n ?_|refine a_q ?_ _));exact a_X.out⟩,⟨by repeat (first|(with_reducible first|exact HB.out|apply a_e|apply a_b|apply a_g|refine a_c ?_ b_m.out|refine a_c ?_ a_Y.out|refine a_c ?_ c_c.out)|exact HB.out)⟩⟩
      rw [if_pos c36] at H
      have c36b0 : decide (x40_2 < (t439.length : Int)) = true:=decide_eq_true c36
      clear c36
      by_cases c37 : 0 ≤ x40_2
      rotate_left
      ·rw [if_neg c37] at H
       exact absurd H (by simp)
      rw [if_pos c37] at H
      have c37b0:=eq_true c37
      have c37b1 : decide (0 ≤ x40_2) = true:=decide_eq_true c37
      clear c37
      by_cases c38 : x40_2 ≤ (t439.length : Int)
      rotate_left
      ·rw [if_neg c38] at H
       exact absurd H (by simp)
      rw [if_pos c38] at H
      have c38b0:=eq_true c38
      have c38b1 : decide (x40_2 ≤ (t439.length : Int)) = true:=decide_eq_true c38
      clear c38
      obtain ⟨y449,hy449⟩ : ∃ y_ : List Int,y_ = (t439.take (x40_2 : Int).toNat):=⟨_,rfl⟩
      replace H : ((a_o.f k2 y449).bind fun bt453 => (if bt453.2 = 7 then (a_f.l0 k2 l1 t439 (t439.length : Int) (wrap64 (x40_2 + 1))) else (some false))) = some r:=by first|(rw [hy449];with_reducible exact H)|(have H2_:=(Option.bind_some _ _).symm.trans H;rw [hy449];with_reducible exact H2_)|(have H2_:=(Option.bind_some _ _).symm.trans H;with_reducible exact H2_)|with_reducible exact H|(rw [hy449];exact H)|exact H
      have Ny449:=a_a.mk hy449
      clear hy449
      replace H:=Option.bind_eq_some_iff.mp H
      obtain ⟨⟨t453,t456⟩,A390,H⟩:=H
      replace H : (if t456 = 7 then (a_f.l0 k2 l1 t439 (t439.length : Int) (wrap64 (x40_2 + 1))) else (some false)) = some r:=H
      have A39:=a_a.mk A390
      clear A390
      by_cases c40 : t456 = 7
      rotate_left
      ·rw [if_neg c40] at H
       have c40b0 : (t456 == 7) = false:=beq_eq_false_iff_ne.mpr c40
       have c40b1 : (t456 != 7) = true:=bne_iff_ne.mpr c40
       obtain rfl:=Option.some.inj H
       have q49 : (x40_2 : Int) ≤ ((t439.length : Int) : Int):=of_decide_eq_true (by first|(with_reducible assumption)|assumption)
       obtain ⟨i049,g_5,_,hsz49,_⟩:=info_parts info5
       have hroom49 : t439.length ≤ co20:=(Kd.a_z HO_6.out).2.1
       have hC49 : Kd.C (Kd.int .u8) _ Ao20 t439.length t439:=(Kd.a_z HO_6.out).2.2
       have hcut49:=d_c (P:=Try.prog) 51 5 .i64 Try.underlying51 g_5 Ao20 t439.length co20 x40_2 (of_decide_eq_true (by first|(with_reducible assumption)|assumption)) q49 hroom49
       have hr49:=Kd.e_0 (m:=(x40_2 : Int).toNat) hC49 (by omega)
       have hy49 : y449.length = (x40_2 : Int).toNat:=(by rw [Ny449.out,List.length_take];omega)
       rw [← Ny449.out] at hr49
       rw [← hy49] at hcut49
       have c_u:=a_a.mk hr49
       have g_y:=a_a.mk (show y449.length ≤ co20 from by omega)
       clear hr49 hC49 hroom49 g_5 hsz49
       have KY49:=a_a.mk hy49
       clear hy49
       have KL49:=a_a.mk (show (x40_2 : Int).toNat ≤ t439.length from by omega)
       replace q49:=eq_true q49
       go_wp2_with (first|((with_reducible refine a_y (f:=27) rfl ?_);refine a_9 (some 47) rfl rfl Try.func27 (by kernel_rfl) rfl #[.slice Ao20 y449.length co20] rfl (by (try simp only [List.map_toArray,List.map_cons,List.map_nil]);first|done|rfl|(simp only [List.length_drop,List.length_take];rfl)) ?_;(with_reducible refine (a_o.calls k2 _ _ y449 t453 t456 _ ?side1 ?side2 A39.out).mono ?_);(case side1 => repeat (first|exact (by repeat (first|(with_reducible exact c_u.out)|(with_reducible refine Kd.a_R ?_ _)|(with_reducible refine Kd.a_V ?_ _)|(with_reducible refine Kd.a_3 ?_)|exact c_u.out))|(with_reducible refine Kd.a_R ?_ _)|(with_reducible refine Kd.a_V ?_ _)|(with_reducible refine Kd.a_3 ?_)));(case side2 => exact g_y.out);rintro e w50 ⟨v454,rfl,ho0,hb⟩;refine ⟨_,rfl,?_⟩;have e_E:=a_a.mk (Kd.a_Z (Kd.b_S (Kd.b_S (Kd.c_h (M:=fun k_ => (w.heap.size ≤ k_)) ho0 (a_l (by repeat (first|(with_reducible first|exact HB.out|apply a_e|apply a_b|apply a_g|refine a_c ?_ b_m.out|refine a_c ?_ a_Y.out|refine a_c ?_ c_c.out)|exact HB.out))) (fun k_ h_ => h_)) (Kd.R_lt (rup_ a_A.out))) (Kd.R_lt (rup_ b_k.out))) (a_l (by repeat (first|(with_reducible first|exact HB.out|apply a_e|apply a_b|apply a_g|refine a_c ?_ b_m.out|refine a_c ?_ a_Y.out|refine a_c ?_ c_c.out)|exact HB.out))));replace HO_1:=a_a.mk (Kd.b_c (by (with_reducible repeat (first|apply Kd.a_J|apply Kd.a_K|apply Kd.a_1));exact HO_1.out) (Kd.a_6 ho0) hb);replace HO_6:=a_a.mk (Kd.a_B (rup_ HO_6.out) hb);replace a_A:=a_a.mk (Kd.b_h (rup_ a_A.out) (Kd.a_6 ho0) hb);replace b_k:=a_a.mk (Kd.b_h (rup_ b_k.out) (Kd.a_6 ho0) hb);replace b_j:=a_a.mk (a_d (bup_ b_j.out) hb);replace a_X:=a_a.mk (a_d (bup_ a_X.out) hb);replace b_A:=a_a.mk (a_d (bup_ b_A.out) hb);replace c_u:=a_a.mk (Kd.a_L (by repeat (first|(with_reducible exact c_u.out)|(with_reducible refine Kd.a_R ?_ _)|(with_reducible refine Kd.a_V ?_ _)|(with_reducible refine Kd.a_3 ?_)|exact c_u.out)) hb);replace HB:=a_a.mk (a_h (by repeat (first|(with_reducible first|exact HB.out|apply a_e|apply a_b|apply a_g|refine a_c ?_ b_m.out|refine a_c ?_ a_Y.out|refine a_c ?_ c_c.out)|exact HB.out)) hb);(try clear hb);(try clear hb2);(try clear hk);(try clear hi);(try clear ho0))|((with_reducible refine a_t (N:=11) rfl ?_);refine a_s ?hg (N:=11) ?hd (cs:=#[.slice none 0 0]) (t:=26) ?hr ?_;(case hd => rfl);(case hg => rfl);(case hr => first|(go_simp;done)|(go_simp;rfl));intro b_P hg w51 hbox hb;have e_i:=a_a.mk (hbox);have i_e:=a_a.mk ((by rw [hg];exact (a_l (by repeat (first|(with_reducible first|exact HB.out|apply a_e|apply a_b|apply a_g|refine a_c ?_ b_m.out|refine a_c ?_ a_Y.out|refine a_c ?_ c_c.out)|exact HB.out))) : w.heap.size ≤ b_P));have g_z:=a_a.mk ((by rw [hg];exact (a_l (by repeat (first|(with_reducible first|exact HB.out|apply a_e|apply a_b|apply a_g|refine a_c ?_ b_m.out|refine a_c ?_ a_Y.out|refine a_c ?_ c_c.out)|exact HB.out))) : w.heap.size ≤ b_P));have c_R:=a_a.mk ((by rw [hg];exact Nat.ne_of_lt (a_j (bup_ b_j.out)) : b_Z ≠ b_P));have d_m:=a_a.mk ((by rw [hg];exact Nat.ne_of_gt (a_j (bup_ b_j.out)) : b_P ≠ b_Z));have c_S:=a_a.mk ((by rw [hg];exact Nat.ne_of_lt (a_j (bup_ a_X.out)) : b_r ≠ b_P));have d_n:=a_a.mk ((by rw [hg];exact Nat.ne_of_gt (a_j (bup_ a_X.out)) : b_P ≠ b_r));have c_T:=a_a.mk ((by rw [hg];exact Nat.ne_of_lt (a_j (bup_ b_A.out)) : b_E ≠ b_P));have d_o:=a_a.mk ((by rw [hg];exact Nat.ne_of_gt (a_j (bup_ b_A.out)) : b_P ≠ b_E));replace HO_1:=a_a.mk (Kd.b_o (Kd.b_g (by (with_reducible repeat (first|apply Kd.a_J|apply Kd.a_K|apply Kd.a_1));exact HO_1.out) b_P (Nat.le_of_eq hg.symm)) hb);replace HO_6:=a_a.mk (Kd.a_B (rup_ HO_6.out) hb);replace a_A:=a_a.mk (Kd.a_B (rup_ a_A.out) hb);replace b_k:=a_a.mk (Kd.a_B (rup_ b_k.out) hb);replace e_E:=a_a.mk (Kd.a_B (rup_ e_E.out) hb);replace b_j:=a_a.mk (a_d (bup_ b_j.out) hb);replace a_X:=a_a.mk (a_d (bup_ a_X.out) hb);replace b_A:=a_a.mk (a_d (bup_ b_A.out) hb);replace c_u:=a_a.mk (Kd.a_L (by repeat (first|(with_reducible exact c_u.out)|(with_reducible refine Kd.a_R ?_ _)|(with_reducible refine Kd.a_V ?_ _)|(with_reducible refine Kd.a_3 ?_)|exact c_u.out)) hb);replace HB:=a_a.mk (a_h (by repeat (first|(with_reducible first|exact HB.out|apply a_e|apply a_b|apply a_g|refine a_c ?_ b_m.out|refine a_c ?_ a_Y.out|refine a_c ?_ c_c.out)|exact HB.out)) hb);clear hb hbox hg;obtain ⟨Ao52,co52,eo52⟩:=Kd.a_U e_E.out;subst eo52;have i_1:=d_m.out;have i_2:=c_R.out;have i_3:=d_n.out;have i_4:=c_S.out;have i_5:=d_o.out;have i_6:=c_T.out;have g_A : w51.cell? ⟨b_P,0,none⟩ = some (.slice none 0 0):=(a_k e_i.out 0).trans rfl;have g_B:=a_i e_i.out 0))
       go_ret
       exact ⟨by first|rfl|(simp [a_w,a_v] <;> rfl)|(simp [*, a_w,a_v] <;> rfl),by repeat (first|(with_reducible first|exact HB.out|apply a_e|apply a_b|apply a_g|refine a_c ?_ b_m.out|refine a_c ?_ a_Y.out|refine a_c ?_ c_c.out|refine a_c ?_ g_z.out)|exact HB.out)⟩
      rw [if_pos c40] at H
      have c40b0 : (t456 == 7) = true:=beq_iff_eq.mpr c40
      have c40b1 : (t456 != 7) = false:=bne_eq_false_iff_eq.mpr c40
      clear c40
      have H':=a_a.mk H
      clear H
      have q41 : (x40_2 : Int) ≤ ((t439.length : Int) : Int):=of_decide_eq_true (by first|(with_reducible assumption)|assumption)
      obtain ⟨i041,g_6,_,hsz41,_⟩:=info_parts info5
      have hroom41 : t439.length ≤ co20:=(Kd.a_z HO_6.out).2.1
      have hC41 : Kd.C (Kd.int .u8) _ Ao20 t439.length t439:=(Kd.a_z HO_6.out).2.2
      have hcut41:=d_c (P:=Try.prog) 51 5 .i64 Try.underlying51 g_6 Ao20 t439.length co20 x40_2 (of_decide_eq_true (by first|(with_reducible assumption)|assumption)) q41 hroom41
      have hr41:=Kd.e_0 (m:=(x40_2 : Int).toNat) hC41 (by omega)
      have hy41 : y449.length = (x40_2 : Int).toNat:=(by rw [Ny449.out,List.length_take];omega)
      rw [← Ny449.out] at hr41
      rw [← hy41] at hcut41
      have c_u:=a_a.mk hr41
      have g_y:=a_a.mk (show y449.length ≤ co20 from by omega)
      clear hr41 hC41 hroom41 g_6 hsz41
      have KY41:=a_a.mk hy41
      clear hy41
      have KL41:=a_a.mk (show (x40_2 : Int).toNat ≤ t439.length from by omega)
      replace q41:=eq_true q41
      go_wp2_with (first|((with_reducible refine a_y (f:=27) rfl ?_);refine a_9 (some 47) rfl rfl Try.func27 (by kernel_rfl) rfl #[.slice Ao20 y449.length co20] rfl (by (try simp only [List.map_toArray,List.map_cons,List.map_nil]);first|done|rfl|(simp only [List.length_drop,List.length_take];rfl)) ?_;(with_reducible refine (a_o.calls k2 _ _ y449 t453 t456 _ ?side1 ?side2 A39.out).mono ?_);(case side1 => repeat (first|exact (by repeat (first|(with_reducible exact c_u.out)|(with_reducible refine Kd.a_R ?_ _)|(with_reducible refine Kd.a_V ?_ _)|(with_reducible refine Kd.a_3 ?_)|exact c_u.out))|(with_reducible refine Kd.a_R ?_ _)|(with_reducible refine Kd.a_V ?_ _)|(with_reducible refine Kd.a_3 ?_)));(case side2 => exact g_y.out);rintro e w42 ⟨v454,rfl,ho0,hb⟩;refine ⟨_,rfl,?_⟩;have e_E:=a_a.mk (Kd.a_Z (Kd.b_S (Kd.b_S (Kd.c_h (M:=fun k_ => (w.heap.size ≤ k_)) ho0 (a_l (by repeat (first|(with_reducible first|exact HB.out|apply a_e|apply a_b|apply a_g|refine a_c ?_ b_m.out|refine a_c ?_ a_Y.out|refine a_c ?_ c_c.out)|exact HB.out))) (fun k_ h_ => h_)) (Kd.R_lt (rup_ a_A.out))) (Kd.R_lt (rup_ b_k.out))) (a_l (by repeat (first|(with_reducible first|exact HB.out|apply a_e|apply a_b|apply a_g|refine a_c ?_ b_m.out|refine a_c ?_ a_Y.out|refine a_c ?_ c_c.out)|exact HB.out))));replace HO_1:=a_a.mk (Kd.b_c (by (with_reducible repeat (first|apply Kd.a_J|apply Kd.a_K|apply Kd.a_1));exact HO_1.out) (Kd.a_6 ho0) hb);replace HO_6:=a_a.mk (Kd.a_B (rup_ HO_6.out) hb);replace a_A:=a_a.mk (Kd.b_h (rup_ a_A.out) (Kd.a_6 ho0) hb);replace b_k:=a_a.mk (Kd.b_h (rup_ b_k.out) (Kd.a_6 ho0) hb);replace b_j:=a_a.mk (a_d (bup_ b_j.out) hb);replace a_X:=a_a.mk (a_d (bup_ a_X.out) hb);replace b_A:=a_a.mk (a_d (bup_ b_A.out) hb);replace c_u:=a_a.mk (Kd.a_L (by repeat (first|(with_reducible exact c_u.out)|(with_reducible refine Kd.a_R ?_ _)|(with_reducible refine Kd.a_V ?_ _)|(with_reducible refine Kd.a_3 ?_)|exact c_u.out)) hb);replace HB:=a_a.mk (a_h (by repeat (first|(with_reducible first|exact HB.out|apply a_e|apply a_b|apply a_g|refine a_c ?_ b_m.out|refine a_c ?_ a_Y.out|refine a_c ?_ c_c.out)|exact HB.out)) hb);(try clear hb);(try clear hb2);(try clear hk);(try clear hi);(try clear ho0))|((with_reducible refine a_t (N:=11) rfl ?_);refine a_s ?hg (N:=11) ?hd (cs:=#[.slice none 0 0]) (t:=26) ?hr ?_;(case hd => rfl);(case hg => rfl);(case hr => first|(go_simp;done)|(go_simp;rfl));intro b_P hg w43 hbox hb;have e_i:=a_a.mk (hbox);have i_e:=a_a.mk ((by rw [hg];exact (a_l (by repeat (first|(with_reducible first|exact HB.out|apply a_e|apply a_b|apply a_g|refine a_c ?_ b_m.out|refine a_c ?_ a_Y.out|refine a_c ?_ c_c.out)|exact HB.out))) : w.heap.size ≤ b_P));have g_z:=a_a.mk ((by rw [hg];exact (a_l (by repeat (first|(with_reducible first|exact HB.out|apply a_e|apply a_b|apply a_g|refine a_c ?_ b_m.out|refine a_c ?_ a_Y.out|refine a_c ?_ c_c.out)|exact HB.out))) : w.heap.size ≤ b_P));have c_R:=a_a.mk ((by rw [hg];exact Nat.ne_of_lt (a_j (bup_ b_j.out)) : b_Z ≠ b_P));have d_m:=a_a.mk ((by rw [hg];exact Nat.ne_of_gt (a_j (bup_ b_j.out)) : b_P ≠ b_Z));have c_S:=a_a.mk ((by rw [hg];exact Nat.ne_of_lt (a_j (bup_ a_X.out)) : b_r ≠ b_P));have d_n:=a_a.mk ((by rw [hg];exact Nat.ne_of_gt (a_j (bup_ a_X.out)) : b_P ≠ b_r));have c_T:=a_a.mk ((by rw [hg];exact Nat.ne_of_lt (a_j (bup_ b_A.out)) : b_E ≠ b_P));have d_o:=a_a.mk ((by rw [hg];exact Nat.ne_of_gt (a_j (bup_ b_A.out)) : b_P ≠ b_E));replace HO_1:=a_a.mk (Kd.b_o (Kd.b_g (by (with_reducible repeat (first|apply Kd.a_J|apply Kd.a_K|apply Kd.a_1));exact HO_1.out) b_P (Nat.le_of_eq hg.symm)) hb);replace HO_6:=a_a.mk (Kd.a_B (rup_ HO_6.out) hb);replace a_A:=a_a.mk (Kd.a_B (rup_ a_A.out) hb);replace b_k:=a_a.mk (Kd.a_B (rup_ b_k.out) hb);replace e_E:=a_a.mk (Kd.a_B (rup_ e_E.out) hb);replace b_j:=a_a.mk (a_d (bup_ b_j.out) hb);replace a_X:=a_a.mk (a_d (bup_ a_X.out) hb);replace b_A:=a_a.mk (a_d (bup_ b_A.out) hb);replace c_u:=a_a.mk (Kd.a_L (by repeat (first|(with_reducible exact c_u.out)|(with_reducible refine Kd.a_R ?_ _)|(with_reducible refine Kd.a_V ?_ _)|(with_reducible refine Kd.a_3 ?_)|exact c_u.out)) hb);replace HB:=a_a.mk (a_h (by repeat (first|(with_reducible first|exact HB.out|apply a_e|apply a_b|apply a_g|refine a_c ?_ b_m.out|refine a_c ?_ a_Y.out|refine a_c ?_ c_c.out)|exact HB.out)) hb);clear hb hbox hg;obtain ⟨Ao44,co44,eo44⟩:=Kd.a_U e_E.out;subst eo44;have i_7:=d_m.out;have i_8:=c_R.out;have i_9:=d_n.out;have j_a:=c_S.out;have j_b:=d_o.out;have j_c:=c_T.out;have g_C : w43.cell? ⟨b_P,0,none⟩ = some (.slice none 0 0):=(a_k e_i.out 0).trans rfl;have g_D:=a_i e_i.out 0))
      go_roundg k2
      case measure => have:=HJ18.out;have:=HK2.out;omega
      case rel => exact ⟨(wrap64 (x40_2 + 1)),(by first|rfl|(simp;done)|(simp [*];done)),H',⟨by have:=HJ18.out;have:=HK2.out;omega⟩,⟨by (with_reducible repeat (first|apply Kd.a_J|apply Kd.a_K|apply Kd.a_1));exact Kd.b_C (Kd.d_1 (p:=⟨b_P,0,none⟩) (Kd.b_C HO_1.out (fun k_ hk => (⟨hk,hk.2⟩ : _ ∧ k_ ≠ b_P))) (fun _ hk => hk.2) (.slice Ao44 t453.length co44)) (fun _ hk => ⟨hk.1.1.1.1,⟨hk.1.1.1.2.1,⟨hk.1.1.1.2.2.1,⟨hk.1.1.1.2.2.2.1,⟨hk.1.1.1.2.2.2.2.1,⟨hk.1.1.1.2.2.2.2.2.1,hk.1.1.1.2.2.2.2.2.2⟩⟩⟩⟩⟩⟩)⟩,⟨by (with_reducible repeat (first|apply Kd.a_E|apply Kd.a_D|apply Kd.a_H));exact Kd.a_Q (Kd.b_l (p:=⟨b_P,0,none⟩) (Kd.a_O HO_6.out e_i.out (by decide)) (fun _ hk => hk.2) (.slice Ao44 t453.length co44)) (fun _ hk => hk.1)⟩,⟨by (with_reducible repeat (first|apply Kd.a_E|apply Kd.a_D|apply Kd.a_H));exact Kd.a_Q (Kd.b_l (p:=⟨b_P,0,none⟩) (Kd.a_O a_A.out e_i.out (by decide)) (fun _ hk => hk.2) (.slice Ao44 t453.length co44)) (fun _ hk => ⟨hk.1.1.1,hk.1.1.2⟩)⟩,⟨by (with_reducible repeat (first|apply Kd.a_E|apply Kd.a_D|apply Kd.a_H));exact Kd.a_Q (Kd.b_l (p:=⟨b_P,0,none⟩) (Kd.a_O b_k.out e_i.out (by decide)) (fun _ hk => hk.2) (.slice Ao44 t453.length co44)) (fun _ hk => ⟨hk.1.1.1,hk.1.1.2⟩)⟩,⟨by (with_reducible repeat (first|refine a_p ?_ _|refine a_n ?_|refine a_q ?_ _));refine a_x ?_ c_R.out _;(with_reducible repeat (first|refine a_p ?_ _|refine a_n ?_|refine a_q ?_ _));exact b_j.out⟩,⟨by (with_reducible repeat (first|refine a_p ?_ _|refine a_n ?_|refine a_q ?_ _));refine a_x ?_ c_S.out _;(with_reducible repeat (first|refine a_p ?_ _|refine a_n ?_|refine a_q ?_ _));exact a_X.out⟩,⟨by (with_reducible repeat (first|refine a_p ?_ _|refine a_n ?_|refine a_q ?_ _));refine a_x ?_ c_T.out _;(with_reducible repeat (first|refine a_p ?_ _|refine a_n ?_|refine a_q ?_ _));exact b_A.out⟩,⟨by repeat (first|(with_reducible first|exact HB.out|apply a_e|apply a_b|apply a_g|refine a_c ?_ b_m.out|refine a_c ?_ a_Y.out|refine a_c ?_ c_c.out|refine a_c ?_ g_z.out)|exact HB.out)⟩⟩
 case rest =>
  clear HC7
  try clear c1
  try clear c2
  try clear p2
  try clear c3
  try clear c4
  try clear q4
  try clear c5
  try clear p6
  try clear c7
  try clear c9
  try clear c11
  try clear c14
  try clear c17
  try clear c17b0
  try clear c17b1
  try clear c24
  try clear c25
  try clear c27
  try clear c27b0
  try clear c27b1
  try clear c29
  try clear c30
  try clear c32
  try clear c35
  try clear c36
  try clear c36b0
  try clear c37
  try clear c37b0
  try clear c37b1
  try clear c38
  try clear c38b0
  try clear c38b1
  try clear c40
  try clear c40b0
  try clear c40b1
  try clear q41
  try clear c45
  try clear c46
  try clear c47
  try clear q49
  try clear c53
  try clear c54
  try clear c55
  try clear c_X
  try clear e_y
  try clear d_M
  try clear e_A
  try clear e_C
  try clear g_C
  try clear g_A
  try clear c_Y
  try clear e_z
  try clear d_N
  try clear e_B
  try clear e_D
  try clear g_D
  try clear g_B
  try clear p2
  try clear q41
  try clear q49
  obtain ⟨kq,HA,HJ6,HO_1,a_A,a_X,HB⟩:=hcut
  cases kq with
  | zero => exact absurd HA.out (by simp [a_f.j2])
  | succ kj6 =>
   have H:=HA.out
   clear HA
   simp only [a_f.j2] at H
   obtain ⟨ji57,hji57⟩ : ∃ j_ : Int,(mn (l1.length : Int) 300) = j_:=⟨_,rfl⟩
   replace H : (if 0 ≤ (ji57) then (if (ji57) ≤ (l1.length : Int) then ((some (l1.take ((ji57) : Int).toNat : List Int)).bind fun y458 => ((a_o.f kj6 y458).bind fun bt463 => (if bt463.2 = 0 then ((a_r.f kj6 bt463.1).bind fun bt468 => (if bt468.2 = 0 then ((bytes_Equal.f bt468.1 y458).bind fun t472 => (some t472)) else (some false))) else (if (bt463.1.length : Int) = 0 then (if bt463.2 = 7 then (some true) else (some (bt463.2 == 180))) else (some false))))) else (none)) else (none)) = some r:=by first|(rw [hji57] at H;exact H)|(simp only [hji57] at H ⊢; exact H)
   have hji57_ : (if 300 < (l1.length : Int) then 300 else (l1.length : Int)) = ji57:=hji57
   by_cases c58 : 0 ≤ (ji57)
   rotate_left
   ·rw [if_neg c58] at H
    exact absurd H (by simp)
   rw [if_pos c58] at H
   have c58b0:=eq_true c58
   have c58b1 : decide (0 ≤ (ji57)) = true:=decide_eq_true c58
   clear c58
   by_cases c59 : (ji57) ≤ (l1.length : Int)
   rotate_left
   ·rw [if_neg c59] at H
    exact absurd H (by simp)
   rw [if_pos c59] at H
   have c59b0:=eq_true c59
   have c59b1 : decide ((ji57) ≤ (l1.length : Int)) = true:=decide_eq_true c59
   clear c59
   obtain ⟨y458,hy458⟩ : ∃ y_ : List Int,y_ = (l1.take ((ji57) : Int).toNat):=⟨_,rfl⟩
   replace H : ((a_o.f kj6 y458).bind fun bt463 => (if bt463.2 = 0 then ((a_r.f kj6 bt463.1).bind fun bt468 => (if bt468.2 = 0 then ((bytes_Equal.f bt468.1 y458).bind fun t472 => (some t472)) else (some false))) else (if (bt463.1.length : Int) = 0 then (if bt463.2 = 7 then (some true) else (some (bt463.2 == 180))) else (some false)))) = some r:=by first|(rw [hy458];with_reducible exact H)|(have H2_:=(Option.bind_some _ _).symm.trans H;rw [hy458];with_reducible exact H2_)|(have H2_:=(Option.bind_some _ _).symm.trans H;with_reducible exact H2_)|with_reducible exact H|(rw [hy458];exact H)|exact H
   have Ny458:=a_a.mk hy458
   clear hy458
   replace H:=Option.bind_eq_some_iff.mp H
   obtain ⟨⟨t463,t466⟩,A600,H⟩:=H
   replace H : (if t466 = 0 then ((a_r.f kj6 t463).bind fun bt468 => (if bt468.2 = 0 then ((bytes_Equal.f bt468.1 y458).bind fun t472 => (some t472)) else (some false))) else (if (t463.length : Int) = 0 then (if t466 = 7 then (some true) else (some (t466 == 180))) else (some false))) = some r:=H
   have A60:=a_a.mk A600
   clear A600
   by_cases c61 : t466 = 0
   ·rw [if_pos c61] at H
    have c61b0 : (t466 == 0) = true:=beq_iff_eq.mpr c61
    have c61b1 : (t466 != 0) = false:=bne_eq_false_iff_eq.mpr c61
    clear c61
    replace H:=Option.bind_eq_some_iff.mp H
    obtain ⟨⟨t468,t471⟩,A620,H⟩:=H
    replace H : (if t471 = 0 then ((bytes_Equal.f t468 y458).bind fun t472 => (some t472)) else (some false)) = some r:=H
    have A62:=a_a.mk A620
    clear A620
    by_cases c63 : t471 = 0
    rotate_left
    ·rw [if_neg c63] at H
     have c63b0 : (t471 == 0) = false:=beq_eq_false_iff_ne.mpr c63
     have c63b1 : (t471 != 0) = true:=bne_iff_ne.mpr c63
     obtain rfl:=Option.some.inj H
     have q73 : ((ji57) : Int) ≤ ((l1.length : Int) : Int):=of_decide_eq_true (by first|(with_reducible assumption)|assumption)
     obtain ⟨i073,g_7,_,hsz73,_⟩:=info_parts info5
     have hroom73 : l1.length ≤ c1:=(Kd.b_f HO_1.out).2.1
     have hC73 : Kd.F (Kd.int .u8) _ _ A1 l1.length l1:=(Kd.V_at (base:=w.heap.size) HO_1.out).2.2
     have hcut73:=d_c (P:=Try.prog) 51 5 .i64 Try.underlying51 g_7 A1 l1.length c1 (ji57) (of_decide_eq_true (by first|(with_reducible assumption)|assumption)) q73 hroom73
     have hr73:=Kd.d_X (m:=((ji57) : Int).toNat) hC73 (by omega)
     have hy73 : y458.length = ((ji57) : Int).toNat:=(by rw [Ny458.out,List.length_take];omega)
     rw [← Ny458.out] at hr73
     rw [← hy73] at hcut73
     have b_n:=a_a.mk (show Kd.V (Kd.int .u8) 5 _ w.heap.size _ (.slice A1 y458.length c1) y458 from Kd.V_mk (by omega) hr73)
     have f_V:=a_a.mk (show y458.length ≤ c1 from by omega)
     clear hr73 hC73 hroom73 g_7 hsz73
     have KY73:=a_a.mk hy73
     clear hy73
     replace q73:=eq_true q73
     go_wp2_with (first|((with_reducible refine a_y (f:=27) rfl ?_);refine a_9 (some 60) rfl rfl Try.func27 (by kernel_rfl) rfl #[.slice A1 y458.length c1] rfl (by (try simp only [List.map_toArray,List.map_cons,List.map_nil]);first|done|rfl|(simp only [List.length_drop,List.length_take];rfl)) ?_;(with_reducible refine (a_o.calls kj6 _ _ y458 t463 t466 _ ?side1 ?side2 A60.out).mono ?_);(case side1 => repeat (first|exact (Kd.b_f b_n.out).2.2|(with_reducible refine Kd.a_R ?_ _)|(with_reducible refine Kd.a_V ?_ _)|(with_reducible refine Kd.a_3 ?_)));(case side2 => exact (Kd.b_f b_n.out).2.1);rintro e w74 ⟨v464,rfl,ho0,hb⟩;refine ⟨_,rfl,?_⟩;have b_N:=a_a.mk (Kd.a_Z (Kd.b_S (Kd.c_h (M:=fun k_ => (w.heap.size ≤ k_)) ho0 (a_l (by repeat (first|(with_reducible first|exact HB.out|apply a_e|apply a_b|apply a_g|refine a_c ?_ a_Y.out)|exact HB.out))) (fun k_ h_ => h_)) (Kd.R_lt (rup_ a_A.out))) (a_l (by repeat (first|(with_reducible first|exact HB.out|apply a_e|apply a_b|apply a_g|refine a_c ?_ a_Y.out)|exact HB.out))));replace HO_1:=a_a.mk (Kd.b_c (by (with_reducible repeat (first|apply Kd.a_J|apply Kd.a_K|apply Kd.a_1));exact HO_1.out) (Kd.a_6 ho0) hb);replace a_A:=a_a.mk (Kd.b_h (rup_ a_A.out) (Kd.a_6 ho0) hb);replace b_n:=a_a.mk (Kd.b_c (by (with_reducible repeat (first|apply Kd.a_J|apply Kd.a_K|apply Kd.a_1));exact b_n.out) (Kd.a_6 ho0) hb);replace a_X:=a_a.mk (a_d (bup_ a_X.out) hb);replace HB:=a_a.mk (a_h (by repeat (first|(with_reducible first|exact HB.out|apply a_e|apply a_b|apply a_g|refine a_c ?_ a_Y.out)|exact HB.out)) hb);(try clear hb);(try clear hb2);(try clear hk);(try clear hi);(try clear ho0))|((with_reducible refine a_t (N:=13) rfl ?_);refine a_s ?hg (N:=13) ?hd (cs:=#[.slice none 0 0]) (t:=26) ?hr ?_;(case hd => rfl);(case hg => rfl);(case hr => first|(go_simp;done)|(go_simp;rfl));intro a_8 hg w75 hbox hb;have b_T:=a_a.mk (hbox);have f_W:=a_a.mk ((by rw [hg];exact (a_l (by repeat (first|(with_reducible first|exact HB.out|apply a_e|apply a_b|apply a_g|refine a_c ?_ a_Y.out)|exact HB.out))) : w.heap.size ≤ a_8));have c_J:=a_a.mk ((by rw [hg];exact (a_l (by repeat (first|(with_reducible first|exact HB.out|apply a_e|apply a_b|apply a_g|refine a_c ?_ a_Y.out)|exact HB.out))) : w.heap.size ≤ a_8));have b_w:=a_a.mk ((by rw [hg];exact Nat.ne_of_lt (a_j (bup_ a_X.out)) : b_r ≠ a_8));have b_K:=a_a.mk ((by rw [hg];exact Nat.ne_of_gt (a_j (bup_ a_X.out)) : a_8 ≠ b_r));replace HO_1:=a_a.mk (Kd.b_o (Kd.b_g (by (with_reducible repeat (first|apply Kd.a_J|apply Kd.a_K|apply Kd.a_1));exact HO_1.out) a_8 (Nat.le_of_eq hg.symm)) hb);replace a_A:=a_a.mk (Kd.a_B (rup_ a_A.out) hb);replace b_n:=a_a.mk (Kd.b_o (Kd.b_g (by (with_reducible repeat (first|apply Kd.a_J|apply Kd.a_K|apply Kd.a_1));exact b_n.out) a_8 (Nat.le_of_eq hg.symm)) hb);replace b_N:=a_a.mk (Kd.a_B (rup_ b_N.out) hb);replace a_X:=a_a.mk (a_d (bup_ a_X.out) hb);replace HB:=a_a.mk (a_h (by repeat (first|(with_reducible first|exact HB.out|apply a_e|apply a_b|apply a_g|refine a_c ?_ a_Y.out)|exact HB.out)) hb);clear hb hbox hg;obtain ⟨Ao76,co76,eo76⟩:=Kd.a_U b_N.out;subst eo76;have j_d:=b_K.out;have j_e:=b_w.out;have i_f : w75.cell? ⟨a_8,0,none⟩ = some (.slice none 0 0):=(a_k b_T.out 0).trans rfl;have i_g:=a_i b_T.out 0)|((with_reducible refine a_y (f:=24) rfl ?_);refine a_9 (some 79) rfl rfl Try.func24 (by kernel_rfl) rfl #[.agg #[.slice Ao76 t463.length co76]] rfl (by (try simp only [List.map_toArray,List.map_cons,List.map_nil]);first|done|rfl|(simp only [List.length_drop,List.length_take];rfl)) ?_;(with_reducible refine (a_r.calls kj6 _ _ t463 t468 t471 _ ?side1 ?side2 A62.out).mono ?_);(case side1 => refine (Kd.a_z (e:=31) (base:=w.heap.size) (ok:=fun k_ => (((w.heap.size ≤ k_) ∧ True) ∧ some k_ ≠ (.slice Ao13 t435.length co13 : Value).ownBlock)) (n:=t463.length) (c:=co76) ?_).2.2;exact (by (with_reducible repeat (first|apply Kd.a_E|apply Kd.a_D|apply Kd.a_H));exact (Kd.a_Q (Kd.b_l (p:=⟨a_8,0,none⟩) (Kd.a_O b_N.out b_T.out (by decide)) (fun _ hk => hk.2) (.slice Ao76 t463.length co76)) (fun _ h_ => h_.1))));(case side2 => exact (Kd.a_z b_N.out).2.1);rintro e w79 ⟨v469,rfl,ho0,hb⟩;refine ⟨_,rfl,?_⟩;have f_X:=a_a.mk (Kd.a_Z (Kd.c_h (M:=fun k_ => (w.heap.size ≤ k_)) ho0 (a_l (by repeat (first|(with_reducible first|exact HB.out|apply a_e|apply a_b|apply a_g|refine a_c ?_ a_Y.out|refine a_c ?_ c_J.out)|exact HB.out))) (fun k_ h_ => h_)) (a_l (by repeat (first|(with_reducible first|exact HB.out|apply a_e|apply a_b|apply a_g|refine a_c ?_ a_Y.out|refine a_c ?_ c_J.out)|exact HB.out))));replace HO_1:=a_a.mk (Kd.b_c (by (with_reducible repeat (first|apply Kd.a_J|apply Kd.a_K|apply Kd.a_1));exact (Kd.b_C (Kd.d_1 (p:=⟨a_8,0,none⟩) (Kd.b_C HO_1.out (fun k_ hk => (⟨hk,hk.2⟩ : _ ∧ k_ ≠ a_8))) (fun _ hk => hk.2) (.slice Ao76 t463.length co76)) (fun _ h_ => h_.1))) (Kd.a_6 ho0) hb);replace a_A:=a_a.mk (Kd.a_B (by (with_reducible repeat (first|apply Kd.a_E|apply Kd.a_D|apply Kd.a_H));exact (Kd.a_Q (Kd.b_l (p:=⟨a_8,0,none⟩) (Kd.a_O a_A.out b_T.out (by decide)) (fun _ hk => hk.2) (.slice Ao76 t463.length co76)) (fun _ h_ => h_.1))) hb);replace b_n:=a_a.mk (Kd.b_c (by (with_reducible repeat (first|apply Kd.a_J|apply Kd.a_K|apply Kd.a_1));exact (Kd.b_C (Kd.d_1 (p:=⟨a_8,0,none⟩) (Kd.b_C b_n.out (fun k_ hk => (⟨hk,hk.2⟩ : _ ∧ k_ ≠ a_8))) (fun _ hk => hk.2) (.slice Ao76 t463.length co76)) (fun _ h_ => h_.1))) (Kd.a_6 ho0) hb);replace b_N:=a_a.mk (Kd.a_B (by (with_reducible repeat (first|apply Kd.a_E|apply Kd.a_D|apply Kd.a_H));exact (Kd.a_Q (Kd.b_l (p:=⟨a_8,0,none⟩) (Kd.a_O b_N.out b_T.out (by decide)) (fun _ hk => hk.2) (.slice Ao76 t463.length co76)) (fun _ h_ => h_.1))) hb);replace a_X:=a_a.mk (a_d (g:=b_r) (o:=.cells #[.slice Ao13 t435.length co13] 26 (0,0)) (by (with_reducible repeat (first|refine a_p ?_ _|refine a_n ?_|refine a_q ?_ _));refine a_x ?_ b_w.out _;(with_reducible repeat (first|refine a_p ?_ _|refine a_n ?_|refine a_q ?_ _));exact a_X.out) hb);replace b_T:=a_a.mk (a_d (g:=a_8) (o:=.cells #[.slice Ao76 t463.length co76] 26 (0,0)) (by (with_reducible repeat (first|refine a_p ?_ _|refine a_n ?_|refine a_q ?_ _));refine a_I (cs:=#[.slice none 0 0]) ?_ 0 _ rfl;(with_reducible repeat (first|refine a_p ?_ _|refine a_n ?_|refine a_q ?_ _));exact b_T.out) hb);replace HB:=a_a.mk (a_h (by repeat (first|(with_reducible first|exact HB.out|apply a_e|apply a_b|apply a_g|refine a_c ?_ a_Y.out|refine a_c ?_ c_J.out)|exact HB.out)) hb);(try clear hb);(try clear hb2);(try clear hk);(try clear hi);(try clear ho0)))
     go_ret
     exact ⟨by first|rfl|(simp [a_w,a_v] <;> rfl)|(simp only [← hji57];first|rfl|(simp [a_w,a_v] <;> rfl))|(simp [*, a_w,a_v] <;> rfl),by repeat (first|(with_reducible first|exact HB.out|apply a_e|apply a_b|apply a_g|refine a_c ?_ a_Y.out|refine a_c ?_ c_J.out)|exact HB.out)⟩
    rw [if_pos c63] at H
    have c63b0 : (t471 == 0) = true:=beq_iff_eq.mpr c63
    have c63b1 : (t471 != 0) = false:=bne_eq_false_iff_eq.mpr c63
    clear c63
    replace H:=Option.bind_eq_some_iff.mp H
    obtain ⟨t472,A640,H⟩:=H
    replace H : (some t472) = some r:=H
    have A64:=a_a.mk A640
    clear A640
    obtain rfl:=Option.some.inj H
    have q65 : ((ji57) : Int) ≤ ((l1.length : Int) : Int):=of_decide_eq_true (by first|(with_reducible assumption)|assumption)
    obtain ⟨i065,g_8,_,hsz65,_⟩:=info_parts info5
    have hroom65 : l1.length ≤ c1:=(Kd.b_f HO_1.out).2.1
    have hC65 : Kd.F (Kd.int .u8) _ _ A1 l1.length l1:=(Kd.V_at (base:=w.heap.size) HO_1.out).2.2
    have hcut65:=d_c (P:=Try.prog) 51 5 .i64 Try.underlying51 g_8 A1 l1.length c1 (ji57) (of_decide_eq_true (by first|(with_reducible assumption)|assumption)) q65 hroom65
    have hr65:=Kd.d_X (m:=((ji57) : Int).toNat) hC65 (by omega)
    have hy65 : y458.length = ((ji57) : Int).toNat:=(by rw [Ny458.out,List.length_take];omega)
    rw [← Ny458.out] at hr65
    rw [← hy65] at hcut65
    have b_n:=a_a.mk (show Kd.V (Kd.int .u8) 5 _ w.heap.size _ (.slice A1 y458.length c1) y458 from Kd.V_mk (by omega) hr65)
    have f_V:=a_a.mk (show y458.length ≤ c1 from by omega)
    clear hr65 hC65 hroom65 g_8 hsz65
    have KY65:=a_a.mk hy65
    clear hy65
    replace q65:=eq_true q65
    go_wp2_with (first|((with_reducible refine a_y (f:=27) rfl ?_);refine a_9 (some 60) rfl rfl Try.func27 (by kernel_rfl) rfl #[.slice A1 y458.length c1] rfl (by (try simp only [List.map_toArray,List.map_cons,List.map_nil]);first|done|rfl|(simp only [List.length_drop,List.length_take];rfl)) ?_;(with_reducible refine (a_o.calls kj6 _ _ y458 t463 t466 _ ?side1 ?side2 A60.out).mono ?_);(case side1 => repeat (first|exact (Kd.b_f b_n.out).2.2|(with_reducible refine Kd.a_R ?_ _)|(with_reducible refine Kd.a_V ?_ _)|(with_reducible refine Kd.a_3 ?_)));(case side2 => exact (Kd.b_f b_n.out).2.1);rintro e w66 ⟨v464,rfl,ho0,hb⟩;refine ⟨_,rfl,?_⟩;have b_N:=a_a.mk (Kd.a_Z (Kd.b_S (Kd.c_h (M:=fun k_ => (w.heap.size ≤ k_)) ho0 (a_l (by repeat (first|(with_reducible first|exact HB.out|apply a_e|apply a_b|apply a_g|refine a_c ?_ a_Y.out)|exact HB.out))) (fun k_ h_ => h_)) (Kd.R_lt (rup_ a_A.out))) (a_l (by repeat (first|(with_reducible first|exact HB.out|apply a_e|apply a_b|apply a_g|refine a_c ?_ a_Y.out)|exact HB.out))));replace HO_1:=a_a.mk (Kd.b_c (by (with_reducible repeat (first|apply Kd.a_J|apply Kd.a_K|apply Kd.a_1));exact HO_1.out) (Kd.a_6 ho0) hb);replace a_A:=a_a.mk (Kd.b_h (rup_ a_A.out) (Kd.a_6 ho0) hb);replace b_n:=a_a.mk (Kd.b_c (by (with_reducible repeat (first|apply Kd.a_J|apply Kd.a_K|apply Kd.a_1));exact b_n.out) (Kd.a_6 ho0) hb);replace a_X:=a_a.mk (a_d (bup_ a_X.out) hb);replace HB:=a_a.mk (a_h (by repeat (first|(with_reducible first|exact HB.out|apply a_e|apply a_b|apply a_g|refine a_c ?_ a_Y.out)|exact HB.out)) hb);(try clear hb);(try clear hb2);(try clear hk);(try clear hi);(try clear ho0))|((with_reducible refine a_t (N:=13) rfl ?_);refine a_s ?hg (N:=13) ?hd (cs:=#[.slice none 0 0]) (t:=26) ?hr ?_;(case hd => rfl);(case hg => rfl);(case hr => first|(go_simp;done)|(go_simp;rfl));intro a_8 hg w67 hbox hb;have b_T:=a_a.mk (hbox);have f_W:=a_a.mk ((by rw [hg];exact (a_l (by repeat (first|(with_reducible first|exact HB.out|apply a_e|apply a_b|apply a_g|refine a_c ?_ a_Y.out)|exact HB.out))) : w.heap.size ≤ a_8));have c_J:=a_a.mk ((by rw [hg];exact (a_l (by repeat (first|(with_reducible first|exact HB.out|apply a_e|apply a_b|apply a_g|refine a_c ?_ a_Y.out)|exact HB.out))) : w.heap.size ≤ a_8));have b_w:=a_a.mk ((by rw [hg];exact Nat.ne_of_lt (a_j (bup_ a_X.out)) : b_r ≠ a_8));have b_K:=a_a.mk ((by rw [hg];exact Nat.ne_of_gt (a_j (bup_ a_X.out)) : a_8 ≠ b_r));replace HO_1:=a_a.mk (Kd.b_o (Kd.b_g (by (with_reducible repeat (first|apply Kd.a_J|apply Kd.a_K|apply Kd.a_1));exact HO_1.out) a_8 (Nat.le_of_eq hg.symm)) hb);replace a_A:=a_a.mk (Kd.a_B (rup_ a_A.out) hb);replace b_n:=a_a.mk (Kd.b_o (Kd.b_g (by (with_reducible repeat (first|apply Kd.a_J|apply Kd.a_K|apply Kd.a_1));exact b_n.out) a_8 (Nat.le_of_eq hg.symm)) hb);replace b_N:=a_a.mk (Kd.a_B (rup_ b_N.out) hb);replace a_X:=a_a.mk (a_d (bup_ a_X.out) hb);replace HB:=a_a.mk (a_h (by repeat (first|(with_reducible first|exact HB.out|apply a_e|apply a_b|apply a_g|refine a_c ?_ a_Y.out)|exact HB.out)) hb);clear hb hbox hg;obtain ⟨Ao68,co68,eo68⟩:=Kd.a_U b_N.out;subst eo68;have j_f:=b_K.out;have j_g:=b_w.out;have i_h : w67.cell? ⟨a_8,0,none⟩ = some (.slice none 0 0):=(a_k b_T.out 0).trans rfl;have i_i:=a_i b_T.out 0)|((with_reducible refine a_y (f:=24) rfl ?_);refine a_9 (some 79) rfl rfl Try.func24 (by kernel_rfl) rfl #[.agg #[.slice Ao68 t463.length co68]] rfl (by (try simp only [List.map_toArray,List.map_cons,List.map_nil]);first|done|rfl|(simp only [List.length_drop,List.length_take];rfl)) ?_;(with_reducible refine (a_r.calls kj6 _ _ t463 t468 t471 _ ?side1 ?side2 A62.out).mono ?_);(case side1 => refine (Kd.a_z (e:=31) (base:=w.heap.size) (ok:=fun k_ => (((w.heap.size ≤ k_) ∧ True) ∧ some k_ ≠ (.slice Ao13 t435.length co13 : Value).ownBlock)) (n:=t463.length) (c:=co68) ?_).2.2;exact (by (with_reducible repeat (first|apply Kd.a_E|apply Kd.a_D|apply Kd.a_H));exact (Kd.a_Q (Kd.b_l (p:=⟨a_8,0,none⟩) (Kd.a_O b_N.out b_T.out (by decide)) (fun _ hk => hk.2) (.slice Ao68 t463.length co68)) (fun _ h_ => h_.1))));(case side2 => exact (Kd.a_z b_N.out).2.1);rintro e w71 ⟨v469,rfl,ho0,hb⟩;refine ⟨_,rfl,?_⟩;have f_X:=a_a.mk (Kd.a_Z (Kd.c_h (M:=fun k_ => (w.heap.size ≤ k_)) ho0 (a_l (by repeat (first|(with_reducible first|exact HB.out|apply a_e|apply a_b|apply a_g|refine a_c ?_ a_Y.out|refine a_c ?_ c_J.out)|exact HB.out))) (fun k_ h_ => h_)) (a_l (by repeat (first|(with_reducible first|exact HB.out|apply a_e|apply a_b|apply a_g|refine a_c ?_ a_Y.out|refine a_c ?_ c_J.out)|exact HB.out))));replace HO_1:=a_a.mk (Kd.b_c (by (with_reducible repeat (first|apply Kd.a_J|apply Kd.a_K|apply Kd.a_1));exact (Kd.b_C (Kd.d_1 (p:=⟨a_8,0,none⟩) (Kd.b_C HO_1.out (fun k_ hk => (⟨hk,hk.2⟩ : _ ∧ k_ ≠ a_8))) (fun _ hk => hk.2) (.slice Ao68 t463.length co68)) (fun _ h_ => h_.1))) (Kd.a_6 ho0) hb);replace a_A:=a_a.mk (Kd.a_B (by (with_reducible repeat (first|apply Kd.a_E|apply Kd.a_D|apply Kd.a_H));exact (Kd.a_Q (Kd.b_l (p:=⟨a_8,0,none⟩) (Kd.a_O a_A.out b_T.out (by decide)) (fun _ hk => hk.2) (.slice Ao68 t463.length co68)) (fun _ h_ => h_.1))) hb);replace b_n:=a_a.mk (Kd.b_c (by (with_reducible repeat (first|apply Kd.a_J|apply Kd.a_K|apply Kd.a_1));exact (Kd.b_C (Kd.d_1 (p:=⟨a_8,0,none⟩) (Kd.b_C b_n.out (fun k_ hk => (⟨hk,hk.2⟩ : _ ∧ k_ ≠ a_8))) (fun _ hk => hk.2) (.slice Ao68 t463.length co68)) (fun _ h_ => h_.1))) (Kd.a_6 ho0) hb);replace b_N:=a_a.mk (Kd.a_B (by (with_reducible repeat (first|apply Kd.a_E|apply Kd.a_D|apply Kd.a_H));exact (Kd.a_Q (Kd.b_l (p:=⟨a_8,0,none⟩) (Kd.a_O b_N.out b_T.out (by decide)) (fun _ hk => hk.2) (.slice Ao68 t463.length co68)) (fun _ h_ => h_.1))) hb);replace a_X:=a_a.mk (a_d (g:=b_r) (o:=.cells #[.slice Ao13 t435.length co13] 26 (0,0)) (by (with_reducible repeat (first|refine a_p ?_ _|refine a_n ?_|refine a_q ?_ _));refine a_x ?_ b_w.out _;(with_reducible repeat (first|refine a_p ?_ _|refine a_n ?_|refine a_q ?_ _));exact a_X.out) hb);replace b_T:=a_a.mk (a_d (g:=a_8) (o:=.cells #[.slice Ao68 t463.length co68] 26 (0,0)) (by (with_reducible repeat (first|refine a_p ?_ _|refine a_n ?_|refine a_q ?_ _));refine a_I (cs:=#[.slice none 0 0]) ?_ 0 _ rfl;(with_reducible repeat (first|refine a_p ?_ _|refine a_n ?_|refine a_q ?_ _));exact b_T.out) hb);replace HB:=a_a.mk (a_h (by repeat (first|(with_reducible first|exact HB.out|apply a_e|apply a_b|apply a_g|refine a_c ?_ a_Y.out|refine a_c ?_ c_J.out)|exact HB.out)) hb);(try clear hb);(try clear hb2);(try clear hk);(try clear hi);(try clear ho0);obtain ⟨Ao72,co72,eo72⟩:=Kd.a_U f_X.out;subst eo72)|(go_at_call 25;(with_reducible refine (bytes_Equal.calls _ _ t468 _ _ y458 t472 _ ?side1 ?side2 ?side3 ?side4 A64.out).mono ?_);(case side1 => repeat (first|exact (Kd.a_z f_X.out).2.2|(with_reducible refine Kd.a_R ?_ _)|(with_reducible refine Kd.a_V ?_ _)|(with_reducible refine Kd.a_3 ?_)));(case side2 => exact (Kd.a_z f_X.out).2.1);(case side3 => repeat (first|exact (Kd.b_f b_n.out).2.2|(with_reducible refine Kd.a_R ?_ _)|(with_reducible refine Kd.a_V ?_ _)|(with_reducible refine Kd.a_3 ?_)));(case side4 => exact (Kd.b_f b_n.out).2.1);rintro e w' ⟨rfl,⟨nd,rfl⟩⟩))
    go_ret
    exact ⟨by first|rfl|(simp [a_w,a_v] <;> rfl)|(simp only [← hji57];first|rfl|(simp [a_w,a_v] <;> rfl))|(simp [*, a_w,a_v] <;> rfl),by repeat (first|(with_reducible first|exact HB.out|apply a_e|apply a_b|apply a_g|refine a_c ?_ a_Y.out|refine a_c ?_ c_J.out)|exact HB.out)⟩
   rw [if_neg c61] at H
   have c61b0 : (t466 == 0) = false:=beq_eq_false_iff_ne.mpr c61
   have c61b1 : (t466 != 0) = true:=bne_iff_ne.mpr c61
   by_cases c80 : (t463.length : Int) = 0
   rotate_left
   ·rw [if_neg c80] at H
    have c80b0 : ((t463.length : Int) == 0) = false:=beq_eq_false_iff_ne.mpr c80
    have c80b1 : ((t463.length : Int) != 0) = true:=bne_iff_ne.mpr c80
    have c80b2 : ¬ (t463 = []):=fun h_ => c80 (by rw [h_];rfl)
    obtain rfl:=Option.some.inj H
    have q94 : ((ji57) : Int) ≤ ((l1.length : Int) : Int):=of_decide_eq_true (by first|(with_reducible assumption)|assumption)
    obtain ⟨i094,g_9,_,hsz94,_⟩:=info_parts info5
    have hroom94 : l1.length ≤ c1:=(Kd.b_f HO_1.out).2.1
    have hC94 : Kd.F (Kd.int .u8) _ _ A1 l1.length l1:=(Kd.V_at (base:=w.heap.size) HO_1.out).2.2
    have hcut94:=d_c (P:=Try.prog) 51 5 .i64 Try.underlying51 g_9 A1 l1.length c1 (ji57) (of_decide_eq_true (by first|(with_reducible assumption)|assumption)) q94 hroom94
    have hr94:=Kd.d_X (m:=((ji57) : Int).toNat) hC94 (by omega)
    have hy94 : y458.length = ((ji57) : Int).toNat:=(by rw [Ny458.out,List.length_take];omega)
    rw [← Ny458.out] at hr94
    rw [← hy94] at hcut94
    have b_n:=a_a.mk (show Kd.V (Kd.int .u8) 5 _ w.heap.size _ (.slice A1 y458.length c1) y458 from Kd.V_mk (by omega) hr94)
    have f_V:=a_a.mk (show y458.length ≤ c1 from by omega)
    clear hr94 hC94 hroom94 g_9 hsz94
    have KY94:=a_a.mk hy94
    clear hy94
    replace q94:=eq_true q94
    go_wp2_with (first|((with_reducible refine a_y (f:=27) rfl ?_);refine a_9 (some 60) rfl rfl Try.func27 (by kernel_rfl) rfl #[.slice A1 y458.length c1] rfl (by (try simp only [List.map_toArray,List.map_cons,List.map_nil]);first|done|rfl|(simp only [List.length_drop,List.length_take];rfl)) ?_;(with_reducible refine (a_o.calls kj6 _ _ y458 t463 t466 _ ?side1 ?side2 A60.out).mono ?_);(case side1 => repeat (first|exact (Kd.b_f b_n.out).2.2|(with_reducible refine Kd.a_R ?_ _)|(with_reducible refine Kd.a_V ?_ _)|(with_reducible refine Kd.a_3 ?_)));(case side2 => exact (Kd.b_f b_n.out).2.1);rintro e w95 ⟨v464,rfl,ho0,hb⟩;refine ⟨_,rfl,?_⟩;have b_N:=a_a.mk (Kd.a_Z (Kd.b_S (Kd.c_h (M:=fun k_ => (w.heap.size ≤ k_)) ho0 (a_l (by repeat (first|(with_reducible first|exact HB.out|apply a_e|apply a_b|apply a_g|refine a_c ?_ a_Y.out)|exact HB.out))) (fun k_ h_ => h_)) (Kd.R_lt (rup_ a_A.out))) (a_l (by repeat (first|(with_reducible first|exact HB.out|apply a_e|apply a_b|apply a_g|refine a_c ?_ a_Y.out)|exact HB.out))));replace HO_1:=a_a.mk (Kd.b_c (by (with_reducible repeat (first|apply Kd.a_J|apply Kd.a_K|apply Kd.a_1));exact HO_1.out) (Kd.a_6 ho0) hb);replace a_A:=a_a.mk (Kd.b_h (rup_ a_A.out) (Kd.a_6 ho0) hb);replace b_n:=a_a.mk (Kd.b_c (by (with_reducible repeat (first|apply Kd.a_J|apply Kd.a_K|apply Kd.a_1));exact b_n.out) (Kd.a_6 ho0) hb);replace a_X:=a_a.mk (a_d (bup_ a_X.out) hb);replace HB:=a_a.mk (a_h (by repeat (first|(with_reducible first|exact HB.out|apply a_e|apply a_b|apply a_g|refine a_c ?_ a_Y.out)|exact HB.out)) hb);(try clear hb);(try clear hb2);(try clear hk);(try clear hi);(try clear ho0))|((with_reducible refine a_t (N:=13) rfl ?_);refine a_s ?hg (N:=13) ?hd (cs:=#[.slice none 0 0]) (t:=26) ?hr ?_;(case hd => rfl);(case hg => rfl);(case hr => first|(go_simp;done)|(go_simp;rfl));intro a_8 hg w96 hbox hb;have b_T:=a_a.mk (hbox);have f_W:=a_a.mk ((by rw [hg];exact (a_l (by repeat (first|(with_reducible first|exact HB.out|apply a_e|apply a_b|apply a_g|refine a_c ?_ a_Y.out)|exact HB.out))) : w.heap.size ≤ a_8));have c_J:=a_a.mk ((by rw [hg];exact (a_l (by repeat (first|(with_reducible first|exact HB.out|apply a_e|apply a_b|apply a_g|refine a_c ?_ a_Y.out)|exact HB.out))) : w.heap.size ≤ a_8));have b_w:=a_a.mk ((by rw [hg];exact Nat.ne_of_lt (a_j (bup_ a_X.out)) : b_r ≠ a_8));have b_K:=a_a.mk ((by rw [hg];exact Nat.ne_of_gt (a_j (bup_ a_X.out)) : a_8 ≠ b_r));replace HO_1:=a_a.mk (Kd.b_o (Kd.b_g (by (with_reducible repeat (first|apply Kd.a_J|apply Kd.a_K|apply Kd.a_1));exact HO_1.out) a_8 (Nat.le_of_eq hg.symm)) hb);replace a_A:=a_a.mk (Kd.a_B (rup_ a_A.out) hb);replace b_n:=a_a.mk (Kd.b_o (Kd.b_g (by (with_reducible repeat (first|apply Kd.a_J|apply Kd.a_K|apply Kd.a_1));exact b_n.out) a_8 (Nat.le_of_eq hg.symm)) hb);replace b_N:=a_a.mk (Kd.a_B (rup_ b_N.out) hb);replace a_X:=a_a.mk (a_d (bup_ a_X.out) hb);replace HB:=a_a.mk (a_h (by repeat (first|(with_reducible first|exact HB.out|apply a_e|apply a_b|apply a_g|refine a_c ?_ a_Y.out)|exact HB.out)) hb);clear hb hbox hg;obtain ⟨Ao97,co97,eo97⟩:=Kd.a_U b_N.out;subst eo97;have j_h:=b_K.out;have j_i:=b_w.out;have i_j : w96.cell? ⟨a_8,0,none⟩ = some (.slice none 0 0):=(a_k b_T.out 0).trans rfl;have i_k:=a_i b_T.out 0))
    go_ret
    exact ⟨by first|rfl|(simp [a_w,a_v] <;> rfl)|(simp only [← hji57];first|rfl|(simp [a_w,a_v] <;> rfl))|(simp [*, a_w,a_v] <;> rfl),by repeat (first|(with_reducible first|exact HB.out|apply a_e|apply a_b|apply a_g|refine a_c ?_ a_Y.out|refine a_c ?_ c_J.out)|exact HB.out)⟩
   rw [if_pos c80] at H
   have c80b0 : ((t463.length : Int) == 0) = true:=beq_iff_eq.mpr c80
   have c80b1 : ((t463.length : Int) != 0) = false:=bne_eq_false_iff_eq.mpr c80
   clear c80
   by_cases c81 : t466 = 7
   ·rw [if_pos c81] at H
    have c81b0 : (t466 == 7) = true:=beq_iff_eq.mpr c81
    have c81b1 : (t466 != 7) = false:=bne_eq_false_iff_eq.mpr c81
    clear c81
    obtain rfl:=Option.some.inj H
    have q82 : ((ji57) : Int) ≤ ((l1.length : Int) : Int):=of_decide_eq_true (by first|(with_reducible assumption)|assumption)
    obtain ⟨i082,h_a,_,hsz82,_⟩:=info_parts info5
    have hroom82 : l1.length ≤ c1:=(Kd.b_f HO_1.out).2.1
    have hC82 : Kd.F (Kd.int .u8) _ _ A1 l1.length l1:=(Kd.V_at (base:=w.heap.size) HO_1.out).2.2
    have hcut82:=d_c (P:=Try.prog) 51 5 .i64 Try.underlying51 h_a A1 l1.length c1 (ji57) (of_decide_eq_true (by first|(with_reducible assumption)|assumption)) q82 hroom82
    have hr82:=Kd.d_X (m:=((ji57) : Int).toNat) hC82 (by omega)
    have hy82 : y458.length = ((ji57) : Int).toNat:=(by rw [Ny458.out,List.length_take];omega)
    rw [← Ny458.out] at hr82
    rw [← hy82] at hcut82
    have b_n:=a_a.mk (show Kd.V (Kd.int .u8) 5 _ w.heap.size _ (.slice A1 y458.length c1) y458 from Kd.V_mk (by omega) hr82)
    have f_V:=a_a.mk (show y458.length ≤ c1 from by omega)
    clear hr82 hC82 hroom82 h_a hsz82
    have KY82:=a_a.mk hy82
    clear hy82
    replace q82:=eq_true q82
    go_wp2_with (first|((with_reducible refine a_y (f:=27) rfl ?_);refine a_9 (some 60) rfl rfl Try.func27 (by kernel_rfl) rfl #[.slice A1 y458.length c1] rfl (by (try simp only [List.map_toArray,List.map_cons,List.map_nil]);first|done|rfl|(simp only [List.length_drop,List.length_take];rfl)) ?_;(with_reducible refine (a_o.calls kj6 _ _ y458 t463 t466 _ ?side1 ?side2 A60.out).mono ?_);(case side1 => repeat (first|exact (Kd.b_f b_n.out).2.2|(with_reducible refine Kd.a_R ?_ _)|(with_reducible refine Kd.a_V ?_ _)|(with_reducible refine Kd.a_3 ?_)));(case side2 => exact (Kd.b_f b_n.out).2.1);rintro e w83 ⟨v464,rfl,ho0,hb⟩;refine ⟨_,rfl,?_⟩;have b_N:=a_a.mk (Kd.a_Z (Kd.b_S (Kd.c_h (M:=fun k_ => (w.heap.size ≤ k_)) ho0 (a_l (by repeat (first|(with_reducible first|exact HB.out|apply a_e|apply a_b|apply a_g|refine a_c ?_ a_Y.out)|exact HB.out))) (fun k_ h_ => h_)) (Kd.R_lt (rup_ a_A.out))) (a_l (by repeat (first|(with_reducible first|exact HB.out|apply a_e|apply a_b|apply a_g|refine a_c ?_ a_Y.out)|exact HB.out))));replace HO_1:=a_a.mk (Kd.b_c (by (with_reducible repeat (first|apply Kd.a_J|apply Kd.a_K|apply Kd.a_1));exact HO_1.out) (Kd.a_6 ho0) hb);replace a_A:=a_a.mk (Kd.b_h (rup_ a_A.out) (Kd.a_6 ho0) hb);replace b_n:=a_a.mk (Kd.b_c (by (with_reducible repeat (first|apply Kd.a_J|apply Kd.a_K|apply Kd.a_1));exact b_n.out) (Kd.a_6 ho0) hb);replace a_X:=a_a.mk (a_d (bup_ a_X.out) hb);replace HB:=a_a.mk (a_h (by repeat (first|(with_reducible first|exact HB.out|apply a_e|apply a_b|apply a_g|refine a_c ?_ a_Y.out)|exact HB.out)) hb);(try clear hb);(try clear hb2);(try clear hk);(try clear hi);(try clear ho0))|((with_reducible refine a_t (N:=13) rfl ?_);refine a_s ?hg (N:=13) ?hd (cs:=#[.slice none 0 0]) (t:=26) ?hr ?_;(case hd => rfl);(case hg => rfl);(case hr => first|(go_simp;done)|(go_simp;rfl));intro a_8 hg w84 hbox hb;have b_T:=a_a.mk (hbox);have f_W:=a_a.mk ((by rw [hg];exact (a_l (by repeat (first|(with_reducible first|exact HB.out|apply a_e|apply a_b|apply a_g|refine a_c ?_ a_Y.out)|exact HB.out))) : w.heap.size ≤ a_8));have c_J:=a_a.mk ((by rw [hg];exact (a_l (by repeat (first|(with_reducible first|exact HB.out|apply a_e|apply a_b|apply a_g|refine a_c ?_ a_Y.out)|exact HB.out))) : w.heap.size ≤ a_8));have b_w:=a_a.mk ((by rw [hg];exact Nat.ne_of_lt (a_j (bup_ a_X.out)) : b_r ≠ a_8));have b_K:=a_a.mk ((by rw [hg];exact Nat.ne_of_gt (a_j (bup_ a_X.out)) : a_8 ≠ b_r));replace HO_1:=a_a.mk (Kd.b_o (Kd.b_g (by (with_reducible repeat (first|apply Kd.a_J|apply Kd.a_K|apply Kd.a_1));exact HO_1.out) a_8 (Nat.le_of_eq hg.symm)) hb);replace a_A:=a_a.mk (Kd.a_B (rup_ a_A.out) hb);replace b_n:=a_a.mk (Kd.b_o (Kd.b_g (by (with_reducible repeat (first|apply Kd.a_J|apply Kd.a_K|apply Kd.a_1));exact b_n.out) a_8 (Nat.le_of_eq hg.symm)) hb);replace b_N:=a_a.mk (Kd.a_B (rup_ b_N.out) hb);replace a_X:=a_a.mk (a_d (bup_ a_X.out) hb);replace HB:=a_a.mk (a_h (by repeat (first|(with_reducible first|exact HB.out|apply a_e|apply a_b|apply a_g|refine a_c ?_ a_Y.out)|exact HB.out)) hb);clear hb hbox hg;obtain ⟨Ao85,co85,eo85⟩:=Kd.a_U b_N.out;subst eo85;have j_j:=b_K.out;have j_k:=b_w.out;have i_l : w84.cell? ⟨a_8,0,none⟩ = some (.slice none 0 0):=(a_k b_T.out 0).trans rfl;have i_m:=a_i b_T.out 0))
    go_ret
    exact ⟨by first|rfl|(simp [a_w,a_v] <;> rfl)|(simp only [← hji57];first|rfl|(simp [a_w,a_v] <;> rfl))|(simp [*, a_w,a_v] <;> rfl),by repeat (first|(with_reducible first|exact HB.out|apply a_e|apply a_b|apply a_g|refine a_c ?_ a_Y.out|refine a_c ?_ c_J.out)|exact HB.out)⟩
   rw [if_neg c81] at H
   have c81b0 : (t466 == 7) = false:=beq_eq_false_iff_ne.mpr c81
   have c81b1 : (t466 != 7) = true:=bne_iff_ne.mpr c81
   obtain rfl:=Option.some.inj H
   have q88 : ((ji57) : Int) ≤ ((l1.length : Int) : Int):=of_decide_eq_true (by first|(with_reducible assumption)|assumption)
   obtain ⟨i088,h_b,_,hsz88,_⟩:=info_parts info5
   have hroom88 : l1.length ≤ c1:=(Kd.b_f HO_1.out).2.1
   have hC88 : Kd.F (Kd.int .u8) _ _ A1 l1.length l1:=(Kd.V_at (base:=w.heap.size) HO_1.out).2.2
   have hcut88:=d_c (P:=Try.prog) 51 5 .i64 Try.underlying51 h_b A1 l1.length c1 (ji57) (of_decide_eq_true (by first|(with_reducible assumption)|assumption)) q88 hroom88
   have hr88:=Kd.d_X (m:=((ji57) : Int).toNat) hC88 (by omega)
   have hy88 : y458.length = ((ji57) : Int).toNat:=(by rw [Ny458.out,List.length_take];omega)
   rw [← Ny458.out] at hr88
   rw [← hy88] at hcut88
   have b_n:=a_a.mk (show Kd.V (Kd.int .u8) 5 _ w.heap.size _ (.slice A1 y458.length c1) y458 from Kd.V_mk (by omega) hr88)
   have f_V:=a_a.mk (show y458.length ≤ c1 from by omega)
   clear hr88 hC88 hroom88 h_b hsz88
   have KY88:=a_a.mk hy88
   clear hy88
   replace q88:=eq_true q88
   go_wp2_with (first|((with_reducible refine a_y (f:=27) rfl ?_);refine a_9 (some 60) rfl rfl Try.func27 (by kernel_rfl) rfl #[.slice A1 y458.length c1] rfl (by (try simp only [List.map_toArray,List.map_cons,List.map_nil]);first|done|rfl|(simp only [List.length_drop,List.length_take];rfl)) ?_;(with_reducible refine (a_o.calls kj6 _ _ y458 t463 t466 _ ?side1 ?side2 A60.out).mono ?_);(case side1 => repeat (first|exact (Kd.b_f b_n.out).2.2|(with_reducible refine Kd.a_R ?_ _)|(with_reducible refine Kd.a_V ?_ _)|(with_reducible refine Kd.a_3 ?_)));(case side2 => exact (Kd.b_f b_n.out).2.1);rintro e w89 ⟨v464,rfl,ho0,hb⟩;refine ⟨_,rfl,?_⟩;have b_N:=a_a.mk (Kd.a_Z (Kd.b_S (Kd.c_h (M:=fun k_ => (w.heap.size ≤ k_)) ho0 (a_l (by repeat (first|(with_reducible first|exact HB.out|apply a_e|apply a_b|apply a_g|refine a_c ?_ a_Y.out)|exact HB.out))) (fun k_ h_ => h_)) (Kd.R_lt (rup_ a_A.out))) (a_l (by repeat (first|(with_reducible first|exact HB.out|apply a_e|apply a_b|apply a_g|refine a_c ?_ a_Y.out)|exact HB.out))));replace HO_1:=a_a.mk (Kd.b_c (by (with_reducible repeat (first|apply Kd.a_J|apply Kd.a_K|apply Kd.a_1));exact HO_1.out) (Kd.a_6 ho0) hb);replace a_A:=a_a.mk (Kd.b_h (rup_ a_A.out) (Kd.a_6 ho0) hb);replace b_n:=a_a.mk (Kd.b_c (by (with_reducible repeat (first|apply Kd.a_J|apply Kd.a_K|apply Kd.a_1));exact b_n.out) (Kd.a_6 ho0) hb);replace a_X:=a_a.mk (a_d (bup_ a_X.out) hb);replace HB:=a_a.mk (a_h (by repeat (first|(with_reducible first|exact HB.out|apply a_e|apply a_b|apply a_g|refine a_c ?_ a_Y.out)|exact HB.out)) hb);(try clear hb);(try clear hb2);(try clear hk);(try clear hi);(try clear ho0))|((with_reducible refine a_t (N:=13) rfl ?_);refine a_s ?hg (N:=13) ?hd (cs:=#[.slice none 0 0]) (t:=26) ?hr ?_;(case hd => rfl);(case hg => rfl);(case hr => first|(go_simp;done)|(go_simp;rfl));intro a_8 hg w90 hbox hb;have b_T:=a_a.mk (hbox);have f_W:=a_a.mk ((by rw [hg];exact (a_l (by repeat (first|(with_reducible first|exact HB.out|apply a_e|apply a_b|apply a_g|refine a_c ?_ a_Y.out)|exact HB.out))) : w.heap.size ≤ a_8));have c_J:=a_a.mk ((by rw [hg];exact (a_l (by repeat (first|(with_reducible first|exact HB.out|apply a_e|apply a_b|apply a_g|refine a_c ?_ a_Y.out)|exact HB.out))) : w.heap.size ≤ a_8));have b_w:=a_a.mk ((by rw [hg];exact Nat.ne_of_lt (a_j (bup_ a_X.out)) : b_r ≠ a_8));have b_K:=a_a.mk ((by rw [hg];exact Nat.ne_of_gt (a_j (bup_ a_X.out)) : a_8 ≠ b_r));replace HO_1:=a_a.mk (Kd.b_o (Kd.b_g (by (with_reducible repeat (first|apply Kd.a_J|apply Kd.a_K|apply Kd.a_1));exact HO_1.out) a_8 (Nat.le_of_eq hg.symm)) hb);replace a_A:=a_a.mk (Kd.a_B (rup_ a_A.out) hb);replace b_n:=a_a.mk (Kd.b_o (Kd.b_g (by (with_reducible repeat (first|apply Kd.a_J|apply Kd.a_K|apply Kd.a_1));exact b_n.out) a_8 (Nat.le_of_eq hg.symm)) hb);replace b_N:=a_a.mk (Kd.a_B (rup_ b_N.out) hb);replace a_X:=a_a.mk (a_d (bup_ a_X.out) hb);replace HB:=a_a.mk (a_h (by repeat (first|(with_reducible first|exact HB.out|apply a_e|apply a_b|apply a_g|refine a_c ?_ a_Y.out)|exact HB.out)) hb);clear hb hbox hg;obtain ⟨Ao91,co91,eo91⟩:=Kd.a_U b_N.out;subst eo91;have j_l:=b_K.out;have j_m:=b_w.out;have i_n : w90.cell? ⟨a_8,0,none⟩ = some (.slice none 0 0):=(a_k b_T.out 0).trans rfl;have i_o:=a_i b_T.out 0))
   go_ret
   exact ⟨by first|rfl|(simp [a_w,a_v] <;> rfl)|(simp only [← hji57];first|rfl|(simp [a_w,a_v] <;> rfl))|(simp [*, a_w,a_v] <;> rfl),by repeat (first|(with_reducible first|exact HB.out|apply a_e|apply a_b|apply a_g|refine a_c ?_ a_Y.out|refine a_c ?_ c_J.out)|exact HB.out)⟩
end Go.Proofs.Ytkhbffjfclepfaa.Q
end
section
namespace Go.Proofs.Ytkhbffjfclepfaa.Pure
open Go.RowKit Go.Proofs.Ytkhbffjfclepfaa.Q Go.Proofs.YtkhbffjfclepfaaW.PrintWords Go.Proofs.YtkhbffjfclepfaaW.PrintLast Go.Proofs.YtkhbffjfclepfaaW.PrintMore
set_option linter.unusedVariables false
set_option linter.unusedSimpArgs false
theorem d_C (n : Nat) (h : n < 9223372036854775807) : wrap64 ((n : Int) + 1) = ((n + 1 : Nat) : Int):=by unfold wrap64;omega
theorem g_T (n : Int) (h0 : -9223372036854775808 ≤ n) (h1 : n ≤ 9223372036854775807) : wrap64 n = n:=by unfold wrap64;omega
theorem wraps_u32 (n : Int) (h₀ : 0 ≤ n) (h₁ : n < 2 ^ 32) : IntKind.u32.wrap n = n:=by rw [IntKind.wrap_u32];omega
theorem g_G {a b : Nat} (ha : a < 2 ^ 32) (hb : b < 2 ^ 32) : Go.bits .and .u32 (a : Int) (b : Int) = ((a &&& b : Nat) : Int):=(bits_nat .u32 32 (by decide) wraps_u32 a b ha hb).1
theorem or_n {a b : Nat} (ha : a < 2 ^ 32) (hb : b < 2 ^ 32) : Go.bits .or .u32 (a : Int) (b : Int) = ((a ||| b : Nat) : Int):=(bits_nat .u32 32 (by decide) wraps_u32 a b ha hb).2
def nd (a b : Nat) : Nat:=(BitVec.ofNat 32 a &&& ~~~BitVec.ofNat 32 b).toNat
theorem h_k (a b : Nat) : nd a b < 2 ^ 32:=BitVec.isLt _
theorem nd_n (a b : Nat) : Go.bits .andNot .u32 (a : Int) (b : Int) = (nd a b : Int):=by
 have h : Go.bits .andNot .u32 (a : Int) (b : Int) = IntKind.u32.wrap ((nd a b : Nat) : Int):=by
  simp only [Go.bits,BitVec.ofInt_natCast,nd]
  rfl
 rw [h]
 exact wraps_u32 _ (Int.natCast_nonneg _) (by have:=h_k a b;exact_mod_cast this)
theorem g_F {a b : Nat} (ha : a < 2 ^ 32) (i : Nat) : (nd a b).testBit i = (a.testBit i && !b.testBit i):=by
 unfold nd
 rw [BitVec.testBit_toNat,BitVec.getLsbD_and,BitVec.getLsbD_not,BitVec.getLsbD_ofNat,BitVec.getLsbD_ofNat]
 by_cases h : i < 32
 ·simp [h]
 have : a.testBit i = false:=Nat.testBit_lt_two_pow (Nat.lt_of_lt_of_le ha (Nat.pow_le_pow_right (by decide) (by omega)))
 simp [h,this]
theorem d_A {a b : Nat} : a &&& b = 0 ↔ ∀ i,a.testBit i = true → b.testBit i = false:=by
 constructor
 ·intro h i hi
  have:=congrArg (Nat.testBit · i) h
  simp [Nat.testBit_and,hi] at this
  exact this
 intro h
 apply Nat.eq_of_testBit_eq
 intro i
 rw [Nat.testBit_and,Nat.zero_testBit]
 cases ha : a.testBit i
 ·rfl
 simp [h i ha]
theorem f_4 {a b : Nat} (ha : a < 2 ^ 32) : nd a b = 0 ↔ ∀ i,a.testBit i = true → b.testBit i = true:=by
 constructor
 ·intro h i hi
  have:=congrArg (Nat.testBit · i) h
  simp [g_F ha,hi] at this
  exact this
 intro h
 apply Nat.eq_of_testBit_eq
 intro i
 rw [g_F ha,Nat.zero_testBit]
 cases hx : a.testBit i
 ·rfl
 simp [h i hx]
theorem e_n {a i : Nat} (ha : a < 256) (hi : 8 ≤ i) : a.testBit i = false:=Nat.testBit_lt_two_pow (Nat.lt_of_lt_of_le (show a < 2 ^ 8 by omega) (Nat.pow_le_pow_right (by decide) hi))
theorem e_J {a : Nat} (h : ∀ i,8 ≤ i → a.testBit i = false) : a < 256:=by
 apply Nat.lt_of_not_le
 intro hc
 obtain ⟨i,hi,hi'⟩:=Nat.exists_ge_and_testBit_of_ge_two_pow (show 2 ^ 8 ≤ a by omega)
 rw [h i hi] at hi'
 cases hi'
theorem g_O {a : Nat} (ha : a < 2 ^ 32) : nd a 255 = 0 ↔ a < 256:=by
 rw [f_4 ha]
 constructor
 ·intro h
  refine e_J fun i hi => ?_
  cases hx : a.testBit i
  ·rfl
  have:=h i hx
  rw [e_n (by omega) hi] at this
  cases this
 intro h i hi
 have h8 : i < 8:=by
  apply Nat.lt_of_not_le
  intro hc
  rw [e_n h hc] at hi
  cases hi
 have : i = 0 ∨ i = 1 ∨ i = 2 ∨ i = 3 ∨ i = 4 ∨ i = 5 ∨ i = 6 ∨ i = 7:=by omega
 rcases this with rfl|rfl|rfl|rfl|rfl|rfl|rfl|rfl <;> decide
def up (S : List Nat) : List Int:=S.map fun (n : Nat) => (n : Int)
theorem a_2 (S : List Nat) : (up S).length = S.length:=List.length_map _
theorem d_8 (S R : List Nat) : up (S ++ R) = up S ++ up R:=List.map_append
theorem g_I (l : List Int) (h : ∀ x ∈ l,0 ≤ x ∧ x < 4294967296) : ∃ S,l = up S ∧ ∀ s ∈ S,s < 4294967296:=by
 refine ⟨l.map Int.toNat,?_,?_⟩
 ·unfold up
  rw [List.map_map]
  conv => lhs;rw [← List.map_id l]
  apply List.map_congr_left
  intro x hx
  have:=h x hx
  simp;omega
 intro s hs
 obtain ⟨x,hx,rfl⟩:=List.mem_map.1 hs
 have:=h x hx
 omega
theorem h_i (S : List Nat) (i : Nat) : rd (up S) (i : Int) = ((S.getD i 0 : Nat) : Int):=by
 unfold rd up
 simp [List.getD_eq_getElem?_getD]
 cases S[i]? <;> simp
def cnt (S : List Nat) (c : Nat) : Nat:=S.countP (·.testBit c)
theorem e_I (s : Nat) (S : List Nat) (c : Nat) : cnt (s :: S) c = (if s.testBit c then 1 else 0) + cnt S c:=by
 unfold cnt
 rw [List.countP_cons]
 omega
theorem e_9 (c : Nat) : cnt [] c = 0:=rfl
structure Good (S : List Nat) : Prop where
 len1 : 1 ≤ S.length
 len4 : S.length ≤ 4
 each : ∀ s ∈ S,s ≠ 0 ∧ s < 256
 one : ∃ m,m ≤ 8 ∧ ∀ c,cnt S c = if c < m then 1 else 0
open Classical in
noncomputable def gd (S : List Nat) : Bool:=decide (Good S)
theorem d_a {S : List Nat} : gd S = true ↔ Good S:=by unfold gd;simp
theorem e_o (S : List Nat) (a c : Nat) : (S.foldl (· ||| ·) a).testBit c = (a.testBit c || decide (1 ≤ cnt S c)):=by
 induction S generalizing a with
 | nil => simp [e_9]
 | cons s S ih =>
  rw [List.foldl_cons,ih,Nat.testBit_or,e_I]
  cases a.testBit c <;> cases s.testBit c <;> simp
theorem f_B : ∀ U,U < 256 → U &&& (U + 1) = 0 → ∃ m,m ≤ 8 ∧ U = 2 ^ m - 1:=by
 intro U hU h
 have key : ∀ U : Fin 256,U.val &&& (U.val + 1) = 0 → U.val = 0 ∨ U.val = 1 ∨ U.val = 3 ∨ U.val = 7 ∨ U.val = 15 ∨ U.val = 31 ∨ U.val = 63 ∨ U.val = 127 ∨ U.val = 255:=by decide +kernel
 rcases key ⟨U,hU⟩ h with h|h|h|h|h|h|h|h|h <;> simp only at h
 ·exact ⟨0,by decide,h⟩
 ·exact ⟨1,by decide,h⟩
 ·exact ⟨2,by decide,h⟩
 ·exact ⟨3,by decide,h⟩
 ·exact ⟨4,by decide,h⟩
 ·exact ⟨5,by decide,h⟩
 ·exact ⟨6,by decide,h⟩
 ·exact ⟨7,by decide,h⟩
 exact ⟨8,by decide,h⟩
theorem f_I (S : List Nat) : Good S ↔ (1 ≤ S.length ∧ S.length ≤ 4) ∧ (∀ s ∈ S,s ≠ 0 ∧ s < 256) ∧ (∀ c,cnt S c ≤ 1) ∧ (S.foldl (· ||| ·) 0) &&& ((S.foldl (· ||| ·) 0 + 1) % 4294967296) = 0:=by
 have hU : (∀ s ∈ S,s ≠ 0 ∧ s < 256) → S.foldl (· ||| ·) 0 < 256:=fun h => e_J fun i hi => by
  rw [e_o]
  have : cnt S i = 0:=by
   unfold cnt
   rw [List.countP_eq_zero]
   intro s hs
   simp [e_n (h s hs).2 hi]
  simp [this]
 constructor
 ·rintro ⟨h1,h4,he,m,hm,ho⟩
  refine ⟨⟨h1,h4⟩,he,fun c => by rw [ho];split <;> omega,?_⟩
  have hu : S.foldl (· ||| ·) 0 = 2 ^ m - 1:=by
   apply Nat.eq_of_testBit_eq
   intro c
   rw [e_o,ho,Nat.testBit_two_pow_sub_one]
   by_cases hc : c < m <;> simp [hc]
  rw [hu]
  have : m = 0 ∨ m = 1 ∨ m = 2 ∨ m = 3 ∨ m = 4 ∨ m = 5 ∨ m = 6 ∨ m = 7 ∨ m = 8:=by omega
  rcases this with rfl|rfl|rfl|rfl|rfl|rfl|rfl|rfl|rfl <;> decide
 rintro ⟨⟨h1,h4⟩,he,hc,hz⟩
 have h:=hU he
 rw [Nat.mod_eq_of_lt (by omega)] at hz
 obtain ⟨m,hm,hu⟩:=f_B _ h hz
 refine ⟨h1,h4,he,m,hm,fun c => ?_⟩
 have:=e_o S 0 c
 rw [hu,Nat.testBit_two_pow_sub_one] at this
 simp at this
 have:=hc c
 by_cases hcm : c < m
 ·simp [hcm] at this ⊢; omega
 simp [hcm] at this ⊢; omega
end Go.Proofs.Ytkhbffjfclepfaa.Pure
end
section
namespace Go.Proofs.Ytkhbffjfclepfaa.Pure
open Go.RowKit Go.Proofs.Ytkhbffjfclepfaa.Q Go.Proofs.YtkhbffjfclepfaaW.PrintWords Go.Proofs.YtkhbffjfclepfaaW.PrintLast Go.Proofs.YtkhbffjfclepfaaW.PrintMore
set_option linter.unusedVariables false
set_option linter.unusedSimpArgs false
def hb (s : Nat) (a : Int) : Bool:=decide (0 ≤ a ∧ a < 8) && s.testBit a.toNat
theorem f_J (s : Nat) (hs : s < 2 ^ 32) : a_F.f (s : Int) = some (if s < 256 then 0 else 140):=by
 unfold a_F.f
 have e:=nd_n s 255
 rw [show ((255 : Nat) : Int) = 255 from rfl] at e
 rw [e]
 by_cases h : s < 256
 ·rw [if_pos (by have:=(g_O hs).2 h;omega),if_pos h]
 rw [if_neg (by intro h2;exact h ((g_O hs).1 (by omega))),if_neg h]
end Go.Proofs.Ytkhbffjfclepfaa.Pure
end
section
namespace Go.Proofs.Ytkhbffjfclepfaa.Pure
open Go.RowKit Go.Proofs.Ytkhbffjfclepfaa.Q Go.Proofs.YtkhbffjfclepfaaW.PrintWords Go.Proofs.YtkhbffjfclepfaaW.PrintLast Go.Proofs.YtkhbffjfclepfaaW.PrintMore
set_option linter.unusedVariables false
set_option linter.unusedSimpArgs false
structure Fit (S : List Nat) : Prop where
 lt : ∀ s ∈ S,s < 2 ^ 32
 len : S.length ≤ 1000
theorem Good.fit {S : List Nat} (h : Good S) : Fit S:=⟨fun s hs => by have:=(h.each s hs).2;omega,by have:=h.len4;omega⟩
theorem f_d {S pre suf : List Nat} {x : Nat} (h : S = pre ++ x :: suf) : rd (up S) (pre.length : Int) = (x : Int):=by rw [h_i];subst h;simp
theorem e_6 {S pre suf : List Nat} {x : Nat} (h : S = pre ++ x :: suf) : pre.length < S.length:=by subst h;simp
theorem e_r {S pre suf : List Nat} {x : Nat} (h : S = pre ++ x :: suf) : x ∈ S:=by subst h;simp
theorem e_Y {S pre : List Nat} (h : S = pre ++ []) : pre.length = S.length:=by subst h;simp
theorem d_B {S pre suf : List Nat} {x : Nat} (h : S = pre ++ x :: suf) : S = (pre ++ [x]) ++ suf:=by simp [h]
theorem d_E {pre : List Nat} {x : Nat} (h : pre.length < 1000) : wrap64 ((pre.length : Int) + 1) = ((pre ++ [x]).length : Int):=by rw [d_C pre.length (by omega)];simp
def ckl : Bool → Nat → List Nat → Bool
 | ok,A,[] => ok && (A &&& ((A + 1) % 4294967296) == 0)
 | ok,A,x :: xs => ckl (ok && (x != 0) && decide (x < 256) && (x &&& A == 0)) (A ||| x) xs
theorem e_G (S : List Nat) (hS : Fit S) : ∀ (suf pre : List Nat) (ok : Bool) (A : Nat),S = pre ++ suf → A < 2 ^ 32 → Ev (fun k => a_m.l0 k ok (A : Int) (up S) ((up S).length : Int) (pre.length : Int)) (if ckl ok A suf = true then 0 else 180)
 | [],pre,ok,A,h,hA => ⟨1,fun k hk => by
  obtain ⟨k,rfl⟩ : ∃ k',k = k' + 1:=⟨k - 1,by omega⟩
  show a_m.l0 (k + 1) _ _ _ _ _ = _
  have e : Go.bits .and .u32 (A : Int) (((A : Int) + 1) % 4294967296) = ((A &&& ((A + 1) % 4294967296) : Nat) : Int):=by
   rw [← g_G hA (show (A + 1) % 4294967296 < 2 ^ 32 by omega)]
   rfl
  rw [a_m.l0,if_neg (by rw [a_2,e_Y h];omega),e]
  unfold ckl
  cases ok
  ·simp
  ·rw [if_pos rfl]
   by_cases hz : A &&& ((A + 1) % 4294967296) = 0
   ·rw [hz];simp
   ·rw [if_neg (by omega),if_neg (by simpa using hz)]⟩
 | x :: suf,pre,ok,A,h,hA => by
  have hx:=hS.lt x (e_r h)
  have hlen:=hS.len
  have hlt:=e_6 h
  have hor : A ||| x < 2 ^ 32:=Nat.or_lt_two_pow hA hx
  obtain ⟨K,hK⟩:=e_G S hS suf (pre ++ [x]) (ok && (x != 0) && decide (x < 256) && (x &&& A == 0)) (A ||| x) (d_B h) hor
  refine ⟨K + 1,fun k hk => ?_⟩
  obtain ⟨k,rfl⟩ : ∃ k',k = k' + 1:=⟨k - 1,by omega⟩
  have hk' : a_m.l0 k (ok && (x != 0) && decide (x < 256) && (x &&& A == 0)) ((A ||| x : Nat) : Int) (up S) ((up S).length : Int) ((pre ++ [x]).length : Int) = some (if ckl (ok && (x != 0) && decide (x < 256) && (x &&& A == 0)) (A ||| x) suf = true then 0 else 180):=hK k (by omega)
  show a_m.l0 (k + 1) _ _ _ _ _ = _
  rw [a_m.l0,if_pos (by rw [a_2];omega),if_pos (by omega),if_pos (by rw [a_2];omega),f_d h,or_n hA hx,g_G hx hA,d_E (x:=x) (by omega),f_J x hx,Option.bind_some]
  show _ = some (if ckl (ok && (x != 0) && decide (x < 256) && (x &&& A == 0)) (A ||| x) suf = true then 0 else 180)
  rw [← hk']
  cases ok
  ·rw [if_neg (by simp)];simp
  ·rw [if_pos rfl]
   by_cases h0 : x = 0
   ·subst h0;rw [if_pos (by rfl)];simp
   ·rw [if_neg (by omega)]
    have e1 : (x != 0) = true:=by simp [h0]
    by_cases h256 : x < 256
    ·rw [if_pos h256,if_pos rfl,e1,decide_eq_true h256]
     have e2 : ((((x &&& A : Nat) : Int)) == 0) = ((x &&& A) == 0):=by
      cases hz : x &&& A with
      | zero => rfl
      | succ n => simp;omega
     rw [e2]
     simp
    ·rw [if_neg h256,if_neg (by decide),decide_eq_false h256]
     simp
theorem g_e (ok : Bool) (A : Nat) (S : List Nat) : ckl ok A S = true ↔ ok = true ∧ (∀ s ∈ S,s ≠ 0 ∧ s < 256) ∧ (∀ c,(if A.testBit c then 1 else 0) + cnt S c ≤ 1) ∧ (S.foldl (· ||| ·) A) &&& ((S.foldl (· ||| ·) A + 1) % 4294967296) = 0:=by
 induction S generalizing ok A with
 | nil =>
  unfold ckl
  simp only [Bool.and_eq_true,beq_iff_eq,List.foldl_nil,e_9]
  constructor
  ·rintro ⟨h1,h2⟩
   exact ⟨h1,by simp,fun c => by split <;> omega,h2⟩
  rintro ⟨h1,_,_,h2⟩
  exact ⟨h1,h2⟩
 | cons x S ih =>
  rw [ckl,ih,List.foldl_cons]
  simp only [Bool.and_eq_true,beq_iff_eq,bne_iff_ne,decide_eq_true_eq,e_I,List.forall_mem_cons]
  constructor
  ·rintro ⟨⟨⟨⟨h1,h2⟩,h3⟩,h4⟩,h5,h6,h7⟩
   refine ⟨h1,⟨⟨h2,h3⟩,h5⟩,fun c => ?_,h7⟩
   have h8:=h6 c
   have h9:=d_A.1 h4 c
   rw [Nat.testBit_or] at h8
   cases hx : x.testBit c <;> cases ha : A.testBit c <;> simp [hx,ha] at h8 h9 ⊢ <;> omega
  rintro ⟨h1,⟨⟨h2,h3⟩,h5⟩,h6,h7⟩
  refine ⟨⟨⟨⟨h1,h2⟩,h3⟩,d_A.2 fun c hc => ?_⟩,h5,fun c => ?_,h7⟩
  ·have h8:=h6 c
   cases ha : A.testBit c
   ·rfl
   simp [hc,ha] at h8;omega
  have h8:=h6 c
  rw [Nat.testBit_or]
  cases hx : x.testBit c <;> cases ha : A.testBit c <;> simp [hx,ha] at h8 ⊢ <;> omega
theorem f_6 {S : List Nat} (hS : Fit S) : Ev (fun k => a_m.f k (up S)) (if gd S = true then 0 else 180):=by
 have hl:=hS.len
 have key : ∀ ok : Bool,Ev (fun k => a_m.j0 k ok (up S)) (if ckl ok 0 S = true then 0 else 180):=fun ok => by
  refine Ev.step (f:=fun k => a_m.l0 k ok 0 (up S) ((up S).length : Int) 0) (fun k => by rw [a_m.j0]) ?_
  have:=e_G S hS S [] ok 0 rfl (by decide)
  simpa using this
 have e : gd S = ckl (decide (0 < S.length) && decide (S.length ≤ 4)) 0 S:=by
  rw [Bool.eq_iff_iff,d_a,g_e,f_I]
  simp
  intro _ _
  omega
 rw [e]
 refine Ev.congr (f:=fun k => a_m.j0 k (decide (0 < S.length) && decide (S.length ≤ 4)) (up S)) (fun k => ?_) (key _)
 unfold a_m.f
 rw [a_2]
 by_cases h0 : 0 < S.length
 rotate_left
 ·rw [if_neg (by omega),decide_eq_false h0,Bool.false_and]
 rw [if_pos (by omega),decide_eq_true h0,Bool.true_and]
 congr 1
 by_cases h4 : S.length ≤ 4
 ·rw [decide_eq_true h4,decide_eq_true (by omega)]
 rw [decide_eq_false h4,decide_eq_false (by omega)]
end Go.Proofs.Ytkhbffjfclepfaa.Pure
end
section
namespace Go.Proofs.Ytkhbffjfclepfaa.Pure
open Go.RowKit Go.Proofs.Ytkhbffjfclepfaa.Q Go.Proofs.YtkhbffjfclepfaaW.PrintWords Go.Proofs.YtkhbffjfclepfaaW.PrintLast Go.Proofs.YtkhbffjfclepfaaW.PrintMore
set_option linter.unusedVariables false
set_option linter.unusedSimpArgs false
theorem f_G (l : List Int) (h : l.length ≤ 1000) : a_W.f l = some l:=by
 unfold a_W.f
 simp only [Option.bind_some]
 rw [if_pos (by simp;omega)]
 simp
theorem e_5 (l : List Int) : a_M.f l = some (l.take 12):=by
 unfold a_M.f
 have hm : mn (l.length : Int) 12 = ((min l.length 12 : Nat) : Int):=by unfold mn;split <;> omega
 rw [hm,if_pos (by omega),if_pos (by omega)]
 have e : l.take ((min l.length 12 : Nat) : Int).toNat = l.take 12:=by
  rw [show (((min l.length 12 : Nat) : Int)).toNat = min l.length 12 by simp]
  by_cases h : l.length ≤ 12
  ·rw [Nat.min_eq_left h,List.take_of_length_le (Nat.le_refl _),List.take_of_length_le h]
  rw [Nat.min_eq_right (by omega)]
 rw [e,f_G _ (by rw [List.length_take];omega)]
 rfl
def gt (S : List Nat) (a : Int) : Nat:=S.getD a.toNat 0
theorem uniq {p : Nat → Bool} : ∀ (S : List Nat) (i j : Nat) (hi : i < S.length) (hj : j < S.length),S.countP p ≤ 1 → p S[i] = true → p S[j] = true → i = j
 | [],i,j,hi,hj,_,_,_ => by simp at hi
 | s :: S,0,0,hi,hj,_,_,_ => rfl
 | s :: S,0,j + 1,hi,hj,h,h1,h2 => by
  rw [List.countP_cons] at h
  simp at h1 h2
  have : 0 < S.countP p:=List.countP_pos_iff.2 ⟨_,List.getElem_mem _,h2⟩
  rw [if_pos h1] at h
  omega
 | s :: S,i + 1,0,hi,hj,h,h1,h2 => by
  rw [List.countP_cons] at h
  simp at h1 h2
  have : 0 < S.countP p:=List.countP_pos_iff.2 ⟨_,List.getElem_mem _,h1⟩
  rw [if_pos h2] at h
  omega
 | s :: S,i + 1,j + 1,hi,hj,h,h1,h2 => by
  rw [List.countP_cons] at h
  have:=uniq (p:=p) S i j (by simpa using hi) (by simpa using hj) (by omega) (by simpa using h1) (by simpa using h2)
  omega
theorem Good.apart {S : List Nat} (h : Good S) {i j : Nat} (hi : i < S.length) (hj : j < S.length) (hij : i ≠ j) : S[i] &&& S[j] = 0:=by
 refine d_A.2 fun c hc => ?_
 cases hx : (S[j]).testBit c
 ·rfl
 obtain ⟨m,hm,ho⟩:=h.one
 have hc1:=ho c
 unfold cnt at hc1
 exact absurd (uniq S i j hi hj (by rw [hc1];split <;> omega) hc hx) hij
end Go.Proofs.Ytkhbffjfclepfaa.Pure
end
section
namespace Go.Proofs.Ytkhbffjfclepfaa.Pure
open Go.RowKit Go.Proofs.Ytkhbffjfclepfaa.Q Go.Proofs.YtkhbffjfclepfaaW.PrintWords Go.Proofs.YtkhbffjfclepfaaW.PrintLast Go.Proofs.YtkhbffjfclepfaaW.PrintMore
set_option linter.unusedVariables false
set_option linter.unusedSimpArgs false
theorem f_O : Ev (fun k => a_u.f k) true:=Ev.of a_u.mono (k:=100) (by kernel_rfl)
theorem g_Q (l : List Int) (h : l.length ≤ maxLen ∧ ∀ x ∈ l,(Lit.int .u32 x).wf = true) : ∃ S,l.take 12 = up S ∧ Fit S ∧ S.length ≤ 12:=by
 obtain ⟨S,hS,hlt⟩:=g_I (l.take 12) (fun x hx => by
  have:=bounds_u32 (h.2 x (List.mem_of_mem_take hx))
  omega)
 have hlen : S.length ≤ 12:=by
  have:=congrArg List.length hS
  rw [a_2,List.length_take] at this
  omega
 exact ⟨S,hS,⟨hlt,by omega⟩,hlen⟩
end Go.Proofs.Ytkhbffjfclepfaa.Pure
end
section
namespace Go.Proofs.Ytkhbffjfclepfaa.Pure
open Go.RowKit Go.Proofs.Ytkhbffjfclepfaa.Q Go.Proofs.YtkhbffjfclepfaaW.PrintWords Go.Proofs.YtkhbffjfclepfaaW.PrintLast Go.Proofs.YtkhbffjfclepfaaW.PrintMore
set_option linter.unusedVariables false
set_option linter.unusedSimpArgs false
theorem f_1 {A pre suf : List Int} {x : Int} (h : A = pre ++ x :: suf) : rd A (pre.length : Int) = x:=by subst h;simp [rd]
theorem g_S {α : Type} {A pre suf : List α} {x : α} (h : A = pre ++ x :: suf) : pre.length < A.length:=by subst h;simp
theorem e_F {α : Type} {A pre suf : List α} {x : α} (h : A = pre ++ x :: suf) : A = (pre ++ [x]) ++ suf:=by simp [h]
theorem g_d {α : Type} {pre : List α} {x : α} (h : pre.length < 9223372036854775807) : wrap64 ((pre.length : Int) + 1) = ((pre ++ [x]).length : Int):=by rw [d_C pre.length h];simp
theorem f_0 (A B : List Int) (hA : A.length ≤ 1000000) : ∀ (s t p q : List Int),A = p ++ s → B = q ++ t → p.length = q.length → A.length = B.length →
 Ev (fun k => a_C.l0 k A B (A.length : Int) (p.length : Int)) (decide (s = t))
 | [],t,p,q,h1,h2,h3,h4 => by
  have ht : t = []:=by
   have : t.length = 0:=by subst h1 h2;simp at h4;omega
   exact List.eq_nil_of_length_eq_zero this
  subst ht
  refine Ev.step (f:=fun _ => some true) (fun k => ?_) (Ev.now _)
  rw [a_C.l0,if_neg (by subst h1;simp)]
 | x :: s,[],p,q,h1,h2,h3,h4 => by
  exfalso
  subst h1 h2
  simp at h4
  omega
 | x :: s,y :: t,p,q,h1,h2,h3,h4 => by
  have ih:=f_0 A B hA s t (p ++ [x]) (q ++ [y]) (e_F h1) (e_F h2) (by simp [h3]) h4
  have hlt:=g_S h1
  have hx:=f_1 h1
  have hy:=f_1 h2
  rw [← h3] at hy
  refine Ev.step (f:=fun k => if x = y then a_C.l0 k A B (A.length : Int) ((p ++ [x]).length : Int) else some false) (fun k => ?_) ?_
  ·rw [a_C.l0,if_pos (by omega),if_pos (by omega),if_pos (by omega),if_pos (by omega),hx,hy,g_d (x:=x) (by omega)]
  ·by_cases hxy : x = y
   ·simp only [if_pos hxy]
    rw [show decide (x :: s = y :: t) = decide (s = t) by simp [hxy]]
    exact ih
   ·simp only [if_neg hxy]
    rw [show decide (x :: s = y :: t) = false by simp [hxy]]
    exact Ev.now _
theorem e_8 (A B : List Int) (hA : A.length ≤ 1000000) : Ev (fun k => a_S.f k A B) (decide (A = B)):=by
 unfold a_S.f a_C.f
 refine Ev.bind (a:=decide (A = B)) ?_ (Ev.now _)
 by_cases h : A.length = B.length
 ·simp only [if_pos (show (A.length : Int) = (B.length : Int) by omega)]
  exact f_0 A B hA A B [] [] rfl rfl rfl h
 simp only [if_neg (show ¬(A.length : Int) = (B.length : Int) by omega)]
 rw [decide_eq_false (by rintro rfl;exact h rfl)]
 exact Ev.now _
theorem c_Z (l : List Int) : (strOfNums l).toList = l.map fun n => UInt8.ofNat n.toNat:=by
 unfold strOfNums
 exact ByteArray.toList_mk _
theorem e_3 (A B : List Nat) (hA : ∀ x ∈ A,x < 256) (hB : ∀ x ∈ B,x < 256) : bytes_Equal.f (up A) (up B) = some (decide (A = B)):=by
 unfold bytes_Equal.f
 rw [c_Z,c_Z]
 congr 1
 rw [Bool.eq_iff_iff]
 simp only [beq_iff_eq,decide_eq_true_eq]
 constructor
 ·intro h
  have:=congrArg (List.map UInt8.toNat) h
  unfold up at this
  rw [List.map_map,List.map_map,List.map_map,List.map_map] at this
  have e : ∀ (L : List Nat),(∀ x ∈ L,x < 256) → L.map ((UInt8.toNat ∘ fun n => UInt8.ofNat n.toNat) ∘ fun (n : Nat) => (n : Int)) = L:=fun L hL => by
   conv => rhs;rw [← List.map_id L]
   apply List.map_congr_left
   intro x hx
   have:=hL x hx
   simp
   omega
  have e' : ∀ (L : List Nat),(∀ x ∈ L,x < 256) → L.map (UInt8.toNat ∘ (fun n => UInt8.ofNat n.toNat) ∘ fun (n : Nat) => (n : Int)) = L:=fun L hL => e L hL
  first
   | rwa [e A hA,e B hB] at this
   | rwa [e' A hA,e' B hB] at this
 rintro rfl
 rfl
theorem d_0 {S : List Nat} (hS : S.length ≤ 1000) (h256 : ∀ s ∈ S,s < 256) : ∀ (suf pre acc : List Nat),S = pre ++ suf → acc.length ≤ pre.length + 1 →
 Ev (fun k => a_r.l0 k (up acc) (up S) ((up S).length : Int) (pre.length : Int)) (up (acc ++ suf),0)
 | [],pre,acc,h,ha => by
  refine Ev.step (f:=fun _ => some (up acc,0)) (fun k => ?_) (by rw [List.append_nil];exact Ev.now _)
  rw [a_r.l0,if_neg (by rw [a_2,e_Y h];omega)]
 | x :: suf,pre,acc,h,ha => by
  have hx:=h256 x (e_r h)
  have hlt:=e_6 h
  have ih:=d_0 hS h256 suf (pre ++ [x]) (acc ++ [x]) (d_B h) (by simp;omega)
  rw [List.append_assoc] at ih
  refine Ev.step (f:=fun k => a_r.l0 k (up (acc ++ [x])) (up S) ((up S).length : Int) ((pre ++ [x]).length : Int)) (fun k => ?_) ih
  rw [a_r.l0,if_pos (by rw [a_2];omega),if_pos (by omega),if_pos (by rw [a_2];omega),if_pos (by rw [a_2];omega),f_d h,d_E (x:=x) (by omega),d_8,show (x : Int) % 256 = (x : Int) by omega]
  rfl
theorem d_D {S : List Nat} (hS : Fit S) : Ev (fun k => a_r.f k (up S)) (if gd S = true then (up (S.length :: S),0) else ([],180)):=by
 unfold a_r.f
 refine Ev.bind (f_6 hS) ?_
 by_cases hg : gd S = true
 rotate_left
 ·simp only [if_neg hg]
  simp only [show ((180 : Int) = 0) = False by simp,if_false]
  exact Ev.now _
 simp only [if_pos hg,if_true]
 have g:=d_a.1 hg
 have h:=d_0 hS.len (fun s hs => (g.each s hs).2) S [] [S.length] rfl (by simp)
 have e : [((up S).length : Int) % 256] = up [S.length]:=by
  have:=g.len4
  rw [a_2]
  show _ = [(S.length : Int)]
  congr 1
  omega
 rw [e]
 exact h
noncomputable def decv : List Nat → List Nat × Int
 | [] => ([],7)
 | n :: S => if S.length < n then ([],7) else if gd S = true ∧ n = S.length then (S,0) else ([],180)
theorem c_N (n : Nat) (S : List Nat) : decv (n :: S) = if S.length < n then ([],7) else if gd S = true ∧ n = S.length then (S,0) else ([],180):=rfl
theorem d_Q (B S : List Nat) (hB : ∀ x ∈ B,x < 256) (hS : S.length ≤ 400) (hs : ∀ x ∈ S,x < 256) (n : Nat) (hBn : B = n :: S) : ∀ (suf pre : List Nat),S = pre ++ suf →
 Ev (fun k => a_o.l0 k (up B) (up S) ((up S).length : Int) (pre.length : Int) (up pre)) (if gd S = true ∧ n = S.length then (up S,0) else ([],180))
 | [],pre,h => by
  rw [List.append_nil] at h
  subst h
  refine Ev.step (f:=fun k => (a_r.f k (up S)).bind fun bt377 => (if bt377.2 = 0 then ((bytes_Equal.f bt377.1 (up B)).bind fun t381 => (if t381 = true then (some (up S,0)) else (some (([] : List Int),180)))) else (some (([] : List Int),180)))) (fun k => ?_) ?_
  ·rw [a_o.l0,if_neg (by rw [a_2];omega)]
  refine Ev.bind (d_D ⟨fun s h => by have:=hs s h;omega,by omega⟩) ?_
  by_cases hg : gd S = true
  ·have g:=d_a.1 hg
   simp only [if_pos hg,if_true,hg,true_and]
   rw [e_3 (S.length :: S) B (by intro x hx;rcases List.mem_cons.1 hx with rfl|hx;have:=g.len4;omega;exact hs x hx) hB,Option.bind_some]
   by_cases hn : n = S.length
   ·rw [if_pos hn,if_pos (decide_eq_true (by rw [hBn,hn]))]
    exact Ev.now _
   ·rw [if_neg hn,if_neg (by rw [hBn];simp;omega)]
    exact Ev.now _
  ·simp only [if_neg hg,if_neg (fun h : gd S = true ∧ _ => hg h.1)]
   simp only [show ((180 : Int) = 0) = False by simp,if_false]
   exact Ev.now _
 | x :: suf,pre,h => by
  have hx:=hs x (e_r h)
  have hlt:=e_6 h
  refine Ev.step (f:=fun k => a_o.l0 k (up B) (up S) ((up S).length : Int) ((pre ++ [x]).length : Int) (up (pre ++ [x]))) (fun k => ?_) (d_Q B S hB hS hs n hBn suf (pre ++ [x]) (d_B h))
  rw [a_o.l0,if_pos (by rw [a_2];omega),if_pos (by omega),if_pos (by rw [a_2];omega),if_pos (by rw [a_2];omega),f_d h,d_E (x:=x) (by omega),d_8,show (x : Int) % 4294967296 = (x : Int) by omega]
  rfl
theorem d_z (B : List Nat) (hB : ∀ x ∈ B,x < 256) (hl : B.length ≤ 400) : Ev (fun k => a_o.f k (up B)) (up (decv B).1,(decv B).2):=by
 have hshort : ∀ l : List Int,Ev (fun k => a_o.j0 k l true) ([],7):=fun l => Ev.step (f:=fun _ => some ([],7)) (fun k => by rw [a_o.j0,if_pos rfl]) (Ev.now _)
 unfold a_o.f
 cases B with
 | nil => exact hshort _
 | cons n S =>
  have hn:=hB n (by simp)
  have hr : rd (up (n :: S)) 0 = (n : Int):=rfl
  simp only [List.length_cons] at hl
  rw [a_2,hr,g_T _ (by omega) (by omega)]
  simp only [List.length_cons,if_neg (show ¬((S.length + 1 : Nat) : Int) = 0 by omega),if_pos (show (0 : Int) < ((S.length + 1 : Nat) : Int) by omega)]
  rw [c_N]
  by_cases h : S.length < n
  ·rw [if_pos h,decide_eq_true (by omega)]
   exact hshort _
  rw [if_neg h,decide_eq_false (by omega)]
  have hd:=d_Q (n :: S) S hB (by omega) (fun x hx => hB x (by simp [hx])) n rfl S [] rfl
  have e : (if gd S = true ∧ n = S.length then (S,(0 : Int)) else ([],180)) = (if gd S = true ∧ n = S.length then (S,(0 : Int)) else ([],180)):=rfl
  refine Ev.step (f:=fun k => a_o.l0 k (up (n :: S)) (up S) ((up S).length : Int) 0 []) (fun k => ?_) ?_
  ·rw [a_o.j0,if_neg (by simp),if_pos (by rw [a_2];simp;omega)]
   rfl
  by_cases hc : gd S = true ∧ n = S.length
  ·rw [if_pos hc] at hd ⊢
   exact hd
  rw [if_neg hc] at hd ⊢
  exact hd
end Go.Proofs.Ytkhbffjfclepfaa.Pure
end
section
namespace Go.Proofs.Ytkhbffjfclepfaa.Pure
open Go.RowKit Go.Proofs.Ytkhbffjfclepfaa.Q Go.Proofs.YtkhbffjfclepfaaW.PrintWords Go.Proofs.YtkhbffjfclepfaaW.PrintLast Go.Proofs.YtkhbffjfclepfaaW.PrintMore
set_option linter.unusedVariables false
set_option linter.unusedSimpArgs false
theorem f_S (l : List Int) (h : l.length ≤ maxLen ∧ ∀ x ∈ l,(Lit.int .u8 x).wf = true) : ∃ B,l.take ((mn (l.length : Int) 300) : Int).toNat = up B ∧ (∀ x ∈ B,x < 256) ∧ B.length ≤ 300:=by
 have hm : mn (l.length : Int) 300 = ((min l.length 300 : Nat) : Int):=by unfold mn;split <;> omega
 rw [hm,Int.toNat_natCast]
 have hb : ∀ x ∈ l.take (min l.length 300),0 ≤ x ∧ x < 256:=fun x hx => by
  have:=bounds_u8 (h.2 x (List.mem_of_mem_take hx))
  omega
 obtain ⟨B,hB,hlt⟩:=g_I (l.take (min l.length 300)) (fun x hx => by have:=hb x hx;omega)
 refine ⟨B,hB,fun x hx => ?_,?_⟩
 ·have : (x : Int) ∈ up B:=List.mem_map.2 ⟨x,hx,rfl⟩
  rw [← hB] at this
  have:=hb _ this
  omega
 have:=congrArg List.length hB
 rw [a_2,List.length_take] at this
 omega
theorem g_L (l : List Int) : 0 ≤ mn (l.length : Int) 300 ∧ mn (l.length : Int) 300 ≤ (l.length : Int):=by unfold mn;split <;> omega
theorem g_i (l : List Int) (h : l.length ≤ maxLen ∧ ∀ x ∈ l,(Lit.int .u8 x).wf = true) : Ev (fun k => a_f.j2 k l) true:=by
 obtain ⟨B,hB,h256,h300⟩:=f_S l h
 have hm:=g_L l
 refine Ev.step (f:=fun k => (a_o.f k (up B)).bind fun bt463 => (if bt463.2 = 0 then ((a_r.f k bt463.1).bind fun bt468 => (if bt468.2 = 0 then ((bytes_Equal.f bt468.1 (up B)).bind fun t472 => (some t472)) else (some false))) else (if (bt463.1.length : Int) = 0 then (if bt463.2 = 7 then (some true) else (some (bt463.2 == 180))) else (some false)))) (fun k => ?_) ?_
 ·rw [a_f.j2,if_pos hm.1,if_pos hm.2,hB,Option.bind_some]
 refine Ev.bind (d_z B h256 (by omega)) ?_
 cases B with
 | nil => simp only [decv];exact Ev.now _
 | cons n S =>
  simp only [c_N]
  by_cases hs : S.length < n
  ·simp only [if_pos hs];exact Ev.now _
  simp only [if_neg hs]
  by_cases hc : gd S = true ∧ n = S.length
  rotate_left
  ·simp only [if_neg hc]
   exact Ev.now _
  simp only [if_pos hc,if_true]
  have g:=d_a.1 hc.1
  have he:=d_D g.fit
  rw [if_pos hc.1] at he
  refine Ev.bind he ?_
  simp only [if_true]
  have hn:=hc.2
  subst hn
  rw [e_3 _ _ h256 h256,Option.bind_some,decide_eq_true rfl]
  exact Ev.now _
theorem e_Z (l : List Int) {S : List Nat} (g : Good S) (hnext : Ev (fun k => a_f.j2 k l) true) : ∀ m i,i + m = S.length + 1 → Ev (fun k => a_f.l0 k l (up (S.length :: S)) ((S.length + 1 : Nat) : Int) (i : Int)) true
 | 0,i,h => by
  refine Ev.step (f:=fun k => a_f.j2 k l) (fun k => ?_) hnext
  rw [a_f.l0,if_neg (by omega)]
 | m + 1,i,h => by
  have ih:=e_Z l g hnext m (i + 1) (by omega)
  have hl4:=g.len4
  have ht : (up (S.length :: S)).take ((i : Int)).toNat = up ((S.length :: S).take i):=by rw [Int.toNat_natCast];unfold up;rw [List.map_take]
  refine Ev.step (f:=fun k => (a_o.f k (up ((S.length :: S).take i))).bind fun bt453 => (if bt453.2 = 7 then (a_f.l0 k l (up (S.length :: S)) ((S.length + 1 : Nat) : Int) ((i + 1 : Nat) : Int)) else (some false))) (fun k => ?_) ?_
  ·rw [a_f.l0,if_pos (by omega),if_pos (by omega),if_pos (by rw [a_2,List.length_cons];omega),ht,d_C i (by omega)]
  have h256 : ∀ y ∈ (S.length :: S).take i,y < 256:=fun y hy => by
   rcases List.mem_cons.1 (List.mem_of_mem_take hy) with rfl|hy
   ·omega
   ·exact (g.each y hy).2
  refine Ev.bind (d_z _ h256 (by simp;omega)) ?_
  have e : (decv ((S.length :: S).take i)).2 = 7:=by
   cases i with
   | zero => rfl
   | succ j =>
    rw [List.take_succ_cons]
    rw [c_N,if_pos (by simp;omega)]
  simp only [e,if_true]
  exact ih
theorem f_N (l : List Int) (l1 : List Int) (h0 : l.length ≤ maxLen ∧ ∀ x ∈ l,(Lit.int .u32 x).wf = true) (h1 : l1.length ≤ maxLen ∧ ∀ x ∈ l1,(Lit.int .u8 x).wf = true) : ∃ k,a_f.f k l l1 = some true:=by
 refine Ev.rounds (g:=fun k => a_f.f k l l1) (Ev.bind f_O ?_)
 simp only [if_true,e_5,Option.bind_some]
 obtain ⟨S,hS,hfit,h12⟩:=g_Q l h0
 rw [hS]
 have hnext:=g_i l1 h1
 refine Ev.bind (d_D hfit) ?_
 by_cases hg : gd S = true
 rotate_left
 ·simp only [if_neg hg]
  simp only [show ((180 : Int) = 0) = False by simp,if_false]
  exact hnext
 have g:=d_a.1 hg
 have hl4:=g.len4
 simp only [if_pos hg,if_true]
 have h256 : ∀ y ∈ S.length :: S,y < 256:=fun y hy => by
  rcases List.mem_cons.1 hy with rfl|hy
  ·omega
  exact (g.each y hy).2
 have hd:=d_z _ h256 (by simp;omega)
 have hv : decv (S.length :: S) = (S,0):=by
  rw [c_N,if_neg (by omega),if_pos ⟨hg,rfl⟩]
 rw [hv] at hd
 refine Ev.bind hd ?_
 simp only [if_true]
 have hs:=e_8 (up S) (up S) (by rw [a_2];omega)
 rw [decide_eq_true rfl] at hs
 refine Ev.bind hs ?_
 simp only [Bool.not_true]
 refine Ev.step (f:=fun k => a_f.l0 k l1 (up (S.length :: S)) ((S.length + 1 : Nat) : Int) 0) (fun k => ?_) ?_
 ·rw [a_f.j0,if_neg (by simp),a_2,List.length_cons]
 exact e_Z l1 g hnext (S.length + 1) 0 (by omega)
end Go.Proofs.Ytkhbffjfclepfaa.Pure
end
section
namespace Go.Proofs.Ytkhbffjfclepfaa.poolRead
open Go.ChangeShapes Go.WideShapes Go.ChangeAt Go.RowKit Go.Proofs.Ytkhbffjfclepfaa.Q
open Go.Proofs.YtkhbffjfclepfaaW.PrintWords Go.Proofs.YtkhbffjfclepfaaW.PrintLast Go.Proofs.YtkhbffjfclepfaaW.PrintMore
set_option linter.unusedVariables false
set_option linter.unusedSimpArgs false
set_option maxRecDepth 100000 in
theorem lifted (os : Os) (started : os.Started) (H : Type) (enc : TypeId × Value → H) :
 ReturnsInHanded {} Try.checked os 7 .any (Rows.poolReadSpec.pre6 enc Try.prog Try.f7 Rows.poolReadRow.domain false) (Rows.poolReadSpec.post enc Try.prog Try.f7 false true false false):=by
 refine returnsInHanded_of_change_sized (C:=Try.checked) own started (by kernel_rfl) Try.func7
  (ChangeSpec.witness6 (enc:=enc) (C:=Try.checked) false ⟨#[],#[.agg #[.slice none 0 0],.slice none 0 0],[]⟩ 8 (by kernel_rfl) (by kernel_rfl) (by kernel_rfl) (by kernel_rfl)) ?_
 intro W base args ds gs before hval0 hW hcnd hsz0 _
 have hval : ∀ (j : Nat) t v,Try.f7.params[j]? = some t → args[j]? = some v → Value.okWide Try.prog W .any base t v:=hval0
 have hW':=hW
 obtain ⟨p,q,hA0,hV,rfl,hfz,hnd⟩:=hW
 have hA : DataW.TrodAll enc Try.prog W 0 (fun _ => true) true Try.f7.params.toList args.toList ds p:=hA0
 rw [Try.params7] at hA hval
 obtain ⟨v0,vs0,d0,ds0,p0,q0,hargs,rfl,rfl,h0,r0⟩:=trodAll_cons hA
 obtain ⟨v1,vs1,d1,ds1,p1,q1,rfl,rfl,rfl,h1,r1⟩:=trodAll_cons r0
 obtain ⟨rfl,rfl,rfl⟩:=trodAll_nil r1
 obtain rfl : args = #[v0,v1]:=by cases args;simp_all
 obtain ⟨rfl,rfl⟩:=trodVars_none hV
 have k0:=h0
 have lt0 : ∀ x ∈ p0,x.block < W.heap.size:=by obtain ⟨m,hm⟩:=k0;exact DataW.trod_lt m _ _ _ hm
 obtain ⟨cs0,rfl,hz0⟩:=okWide_struct Try.underlying26 (hval 0 26 v0 rfl rfl)
 obtain ⟨fuel0,hf0⟩:=h0
 obtain ⟨x0,hK0,wf0_⟩:=op26.open_ hf0
 obtain ⟨A0_0,c0_0,he0,hc0_0,hr0_0⟩:=f_E hK0
 have hq0:=toList_eq he0
 simp only [Value.cells] at hq0
 subst hq0
 have k1:=h1
 have lt1 : ∀ x ∈ p1,x.block < W.heap.size:=by obtain ⟨m,hm⟩:=k1;exact DataW.trod_lt m _ _ _ hm
 obtain ⟨a1,len1,cap1,rfl⟩:=okWide_slice Try.underlying51 (hval 1 51 v1 rfl rfl)
 obtain ⟨fuel1,hf1⟩:=h1
 obtain ⟨l1,⟨A1,c1,he1,hc1,hr1⟩,wf1_⟩:=(c_W.slice Try.underlying51 (by kernel_rfl) (c_W.int Try.underlying5 (by kernel_rfl))).open_ hf1
 simp [Value.cells] at he1
 obtain ⟨rfl,rfl,rfl⟩:=he1
 obtain ⟨K,hK⟩:=Pure.f_N x0.f0 l1 wf0_ wf1_
 refine (a_f.calls _ _ _ _ _ _ _ _ _ _ hr0_0 hc0_0 (Kd.V_mk hc1 (Kd.C_F (Kd.f_R .u8) hr1)) hK).mono fun e W' ⟨he,bel⟩ => ?_
 subst he
 exact ⟨_,rfl,_,_,_,[],_,[],hW',trodAll_mk1 (shut_bool Try.underlying4 _),(trodAll_cons_mk (Below.trod laidOut (by kernel_rfl) (of_decide_eq_true (by kernel_rfl)) k0 bel lt0) (trodAll_cons_mk (Below.trod laidOut (by kernel_rfl) (of_decide_eq_true (by kernel_rfl)) k1 bel lt1) trodAll_mk0)),rfl,bel.frame _,fun h => by cases h⟩
theorem over : Rows.poolReadRow.holds Try.pinned (OpenSpec.ofChange Rows.poolReadSpec) :=
 OpenClaim.holds_of_wide 7 Try.f7 rfl rfl rfl rfl rfl rfl rfl ⟨rfl,rfl,rfl,rfl,rfl⟩ rfl rfl rfl rfl rfl (by kernel_rfl) Try.func7 (by kernel_rfl)
  (of_decide_eq_true (by kernel_rfl)) (by unfold Func.isWrapper;first|(rw [if_pos (by decide +kernel)];kernel_rfl)|(rw [if_neg (by decide +kernel)];exact ⟨rfl,rfl⟩))
  (fun os started H enc _ => lifted os started H enc)
theorem proved : Rows.PoolReadSaid:=over
#print axioms proved
end Go.Proofs.Ytkhbffjfclepfaa.poolRead
namespace Go.Proofs.Ytkhbffjfclepfaa
theorem poolRead_holds : Rows.PoolReadSaid:=poolRead.proved
end Go.Proofs.Ytkhbffjfclepfaa
end
