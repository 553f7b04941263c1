/- Part 5 of 5 of what the row of TopoBack stands on: contracts over the given program's functions, the plain law, the row; no condition beyond those that each theorem states. -/
import Derived.Test.YtcpfcehfgenljaaDoorXTopoBack3
import Derived.Test.YtcpfcehfgenljaaDoorTie
import Derived.Test.YtcpfcehfgenljaaDoorCards
import Derived.SevenTiedAt
import Derived.LaidMore
import Derived.Lib.LaidTab
section
namespace Go.Proofs.YtcpfcehfgenljaaDoor.Q
open Go.RowKit Go.Proofs.YtcpfcehfgenljaaDoorW.PrintWords Go.Proofs.YtcpfcehfgenljaaDoorW.PrintLast Go.Proofs.YtcpfcehfgenljaaDoorW.PrintMore
set_option linter.unusedVariables false
set_option linter.unusedSimpArgs false
mutual
def a_f.j2 : Nat → List Int → Option (Bool)
 | 0,_ => none
 | k + 1,x1 => if 0 ≤ (mn (x1.length : Int) 600) then (if (mn (x1.length : Int) 600) ≤ (x1.length : Int) then ((some (x1.take ((mn (x1.length : Int) 600) : Int).toNat : List Int)).bind fun y213 => ((a_o.f k y213).bind fun bt218 => (if bt218.2 = 0 then ((a_s.f k bt218.1).bind fun bt223 => (if bt223.2 = 0 then ((bytes_Equal.f bt223.1 y213).bind fun t227 => (some t227)) else (some false))) else (if (bt218.1.length : Int) = 0 then (if bt218.2 = 7 then (some true) else (some (bt218.2 == 160))) else (some false))))) else (none)) else (none)
def a_f.j0 : Nat → List Int → List Int → Bool → Option (Bool)
 | 0,_,_,_ => none
 | k + 1,x1,x6,x37 => if x37 = true then (some false) else (a_f.l0 k x1 x6 (x6.length : Int) 0)
def a_f.l0 : Nat → List Int → List Int → Int → Int → Option (Bool)
 | 0,_,_,_,_ => none
 | k + 1,x1,x6,x39,x40 => if x40 < x39 then (if 0 ≤ x40 then (if x40 ≤ (x6.length : Int) then ((a_o.f k (x6.take (x40 : Int).toNat)).bind fun bt208 => (if bt208.2 = 7 then (a_f.l0 k x1 x6 x39 (wrap64 (x40 + 1))) else (some false))) else (none)) else (none)) else (a_f.j2 k x1)
end
def a_f.f (k : Nat) (l0_0 : List (S56)) (l1 : List Int) : Option (Bool):=(a_v.f k).bind fun t189 => (if t189 = true then ((a_P.f l0_0).bind fun t190 => ((a_s.f k t190).bind fun bt194 => (if bt194.2 = 0 then ((a_o.f k bt194.1).bind fun bt198 => (if bt198.2 = 0 then ((a_X.f k t190 bt198.1).bind fun t203 => (a_f.j0 k l1 bt194.1 (!t203))) else (a_f.j0 k l1 bt194.1 true))) else (a_f.j2 k l1)))) else (some false))
theorem a_f.b_Y : ∀ k,(∀ y0,LeO (a_f.j2 k y0) (a_f.j2 (k + 1) y0)) ∧ (∀ y0 y1 y2,LeO (a_f.j0 k y0 y1 y2) (a_f.j0 (k + 1) y0 y1 y2)) ∧ (∀ y0 y1 y2 y3,LeO (a_f.l0 k y0 y1 y2 y3) (a_f.l0 (k + 1) y0 y1 y2 y3))
 | 0 => ⟨fun _ r h => by simp [a_f.j2] at h,fun _ _ _ r h => by simp [a_f.j0] at h,fun _ _ _ _ r h => by simp [a_f.l0] at h⟩
 | k + 1 => by
  obtain ⟨ih0,ih1,ih2⟩:=a_f.b_Y k
  refine ⟨?_,?_,?_⟩
  ·intro y0
   unfold a_f.j2
   repeat' first
   | (with_reducible exact ih0 _)
   | (with_reducible exact ih1 _ _ _)
   | (with_reducible exact ih2 _ _ _ _)
   | (with_reducible exact a_v.mono _)
   | (with_reducible exact a_o.mono _ _)
   | (with_reducible exact a_s.mono _ _)
   | (with_reducible exact a_X.mono _ _ _)
   | (with_reducible exact LeO.refl _)
   | (with_reducible exact LeO.none _)
   | (with_reducible refine LeO.ite ?_ ?_)
   | (with_reducible refine LeO.bind ?_ (fun _ => ?_))
   | exact ih0 _
   | exact ih1 _ _ _
   | exact ih2 _ _ _ _
   | exact a_v.mono _
   | exact a_o.mono _ _
   | exact a_s.mono _ _
   | exact a_X.mono _ _ _
   | exact LeO.none _
   | refine LeO.ite ?_ ?_
   | refine LeO.bind ?_ (fun _ => ?_)
  ·intro y0 y1 y2
   unfold a_f.j0
   repeat' first
   | (with_reducible exact ih0 _)
   | (with_reducible exact ih1 _ _ _)
   | (with_reducible exact ih2 _ _ _ _)
   | (with_reducible exact a_v.mono _)
   | (with_reducible exact a_o.mono _ _)
   | (with_reducible exact a_s.mono _ _)
   | (with_reducible exact a_X.mono _ _ _)
   | (with_reducible exact LeO.refl _)
   | (with_reducible exact LeO.none _)
   | (with_reducible refine LeO.ite ?_ ?_)
   | (with_reducible refine LeO.bind ?_ (fun _ => ?_))
   | exact ih0 _
   | exact ih1 _ _ _
   | exact ih2 _ _ _ _
   | exact a_v.mono _
   | exact a_o.mono _ _
   | exact a_s.mono _ _
   | exact a_X.mono _ _ _
   | exact LeO.none _
   | refine LeO.ite ?_ ?_
   | refine LeO.bind ?_ (fun _ => ?_)
  ·intro y0 y1 y2 y3
   unfold a_f.l0
   repeat' first
   | (with_reducible exact ih0 _)
   | (with_reducible exact ih1 _ _ _)
   | (with_reducible exact ih2 _ _ _ _)
   | (with_reducible exact a_v.mono _)
   | (with_reducible exact a_o.mono _ _)
   | (with_reducible exact a_s.mono _ _)
   | (with_reducible exact a_X.mono _ _ _)
   | (with_reducible exact LeO.refl _)
   | (with_reducible exact LeO.none _)
   | (with_reducible refine LeO.ite ?_ ?_)
   | (with_reducible refine LeO.bind ?_ (fun _ => ?_))
   | exact ih0 _
   | exact ih1 _ _ _
   | exact ih2 _ _ _ _
   | exact a_v.mono _
   | exact a_o.mono _ _
   | exact a_s.mono _ _
   | exact a_X.mono _ _ _
   | exact LeO.none _
   | refine LeO.ite ?_ ?_
   | refine LeO.bind ?_ (fun _ => ?_)
theorem a_f.mono : ∀ a0 a1 k,LeO (a_f.f k a0 a1) (a_f.f (k + 1) a0 a1):=by
 intro a0 a1 k
 obtain ⟨ih0,ih1,ih2⟩:=a_f.b_Y k
 unfold a_f.f
 repeat' first
  | (with_reducible exact ih0 _)
  | (with_reducible exact ih1 _ _ _)
  | (with_reducible exact ih2 _ _ _ _)
  | (with_reducible exact a_v.mono _)
  | (with_reducible exact a_o.mono _ _)
  | (with_reducible exact a_s.mono _ _)
  | (with_reducible exact a_X.mono _ _ _)
  | (with_reducible exact LeO.refl _)
  | (with_reducible exact LeO.none _)
  | (with_reducible refine LeO.ite ?_ ?_)
  | (with_reducible refine LeO.bind ?_ (fun _ => ?_))
  | exact ih0 _
  | exact ih1 _ _ _
  | exact ih2 _ _ _ _
  | exact a_v.mono _
  | exact a_o.mono _ _
  | exact a_s.mono _ _
  | exact a_X.mono _ _ _
  | exact LeO.none _
  | refine LeO.ite ?_ ?_
  | refine LeO.bind ?_ (fun _ => ?_)
set_option maxHeartbeats 8000000 in
set_option maxRecDepth 100000 in
theorem a_f.calls (k : Nat) (A0_0 : Option Addr) (c0_0 : Nat) (l0_0 : List (S56)) (P1_ : Nat → Prop) (A1 : Option Addr) (c1 : Nat) (l1 : List Int) (r : Bool) (w : World) (hr0_0 : Kd.C k56 w A0_0 l0_0.length l0_0) (hc0_0 : l0_0.length ≤ c0_0) (hs1 : Kd.V (Kd.int .u8) 5 w w.heap.size (fun k_ => P1_ k_) (.slice A1 l1.length c1) l1) (ht : b_Q w) (h : a_f.f k l0_0 l1 = some r) :
 Calls Tryd.prog 3 #[.agg #[.slice A0_0 l0_0.length c0_0],.slice A1 l1.length c1] w fun e w' => e = .returned (.bool r) ∧ Below w.heap.size w w':=by
 have hu24:=Tryd.underlying24
 have HTAB_:=a_a.mk ht
 clear ht
 have b_U:=a_a.mk hr0_0
 have b_1:=a_a.mk hc0_0
 clear hr0_0 hc0_0
 have HO1:=a_a.mk (show Kd.V (Kd.int .u8) 5 w w.heap.size (fun k_ => (P1_ k_ ∨ w.heap.size ≤ k_)) (.slice A1 l1.length c1) l1 from Kd.b_X hs1 (fun k_ hk => .inl hk))
 have HB:=a_a.mk (Below.refl w.heap.size w)
 have H : ((a_v.f k).bind fun t189 => (if t189 = true then ((a_P.f l0_0).bind fun t190 => ((a_s.f k t190).bind fun bt194 => (if bt194.2 = 0 then ((a_o.f k bt194.1).bind fun bt198 => (if bt198.2 = 0 then ((a_X.f k t190 bt198.1).bind fun t203 => (a_f.j0 k l1 bt194.1 (!t203))) else (a_f.j0 k l1 bt194.1 true))) else (a_f.j2 k l1)))) else (some false))) = some r:=h
 clear h
 replace H:=Option.bind_eq_some_iff.mp H
 obtain ⟨t189,A30,H⟩:=H
 replace H : (if t189 = true then ((a_P.f l0_0).bind fun t190 => ((a_s.f k t190).bind fun bt194 => (if bt194.2 = 0 then ((a_o.f k bt194.1).bind fun bt198 => (if bt198.2 = 0 then ((a_X.f k t190 bt198.1).bind fun t203 => (a_f.j0 k l1 bt194.1 (!t203))) else (a_f.j0 k l1 bt194.1 true))) else (a_f.j2 k l1)))) else (some false)) = some r:=H
 have A3:=a_a.mk A30
 clear A30
 by_cases c4 : t189 = true
 rotate_left
 ·replace c4:=Bool.eq_false_iff.mpr c4
  subst c4
  have H1 : (some false) = some r:=by rw [if_neg (show ¬ (false = true) by decide)] at H;exact H
  clear H
  have H:=H1
  clear H1
  obtain rfl:=Option.some.inj H
  go_enter Tryd.func3,Tryd.ntmps3
  go_wp2_with (first|((with_reducible refine a_B (N:=2) rfl ?_);refine a_x ?hg (N:=2) ?hd (cs:=#[.slice A0_0 l0_0.length c0_0]) (t:=24) ?hr ?_;(case hd => rfl);(case hg => rfl);(case hr => first|(go_simp;done)|(go_simp;rfl));intro c_p hg w100 hbox hb;have b_y:=a_a.mk (hbox);have j_J:=a_a.mk ((by rw [hg];exact (a_g (lup_ HB.out)) : w.heap.size ≤ c_p));have b_w:=a_a.mk ((by rw [hg];exact (a_g (lup_ HB.out)) : w.heap.size ≤ c_p));replace HO1:=a_a.mk (Kd.b_E (Kd.b_x (by (with_reducible repeat (first|apply Kd.a_L|apply Kd.a_M|apply Kd.a_6));exact HO1.out) c_p (Nat.le_of_eq hg.symm)) hb);replace HB:=a_a.mk (a_i (lup_ HB.out) hb);clear hb hbox hg)|((with_reducible refine a_u (f:=10) rfl ?_);refine a_U (some 14) rfl rfl Tryd.func10 (by kernel_rfl) rfl #[] rfl (by (try simp only [List.map_toArray,List.map_cons,List.map_nil]);first|done|rfl|(simp only [List.length_drop,List.length_take];rfl)) ?_;(with_reducible refine (a_v.calls k  false _ ?side1 A3.out).mono ?_);(case side1 => exact b_Q.below HTAB_.out (by repeat (first|(with_reducible first|exact HB.out|apply a_d|apply a_b|apply a_e|refine a_c ?_ b_w.out)|exact HB.out)));rintro e w101 ⟨rfl,hb⟩;refine ⟨_,rfl,?_⟩;replace HO1:=a_a.mk (Kd.b_E (by (with_reducible repeat (first|apply Kd.a_L|apply Kd.a_M|apply Kd.a_6));exact HO1.out) hb);replace b_y:=a_a.mk (a_l (bup_ b_y.out) hb);replace HB:=a_a.mk (a_i (by repeat (first|(with_reducible first|exact HB.out|apply a_d|apply a_b|apply a_e|refine a_c ?_ b_w.out)|exact HB.out)) hb);(try clear hb);(try clear hb2);(try clear hk);(try clear hi)))
  go_ret
  exact ⟨by first|rfl|(simp [a_p,a_q] <;> rfl)|(simp [*, a_p,a_q] <;> rfl),by repeat (first|(with_reducible first|exact HB.out|apply a_d|apply a_b|apply a_e|refine a_c ?_ b_w.out)|exact HB.out)⟩
 subst c4
 have H1 : ((a_P.f l0_0).bind fun t190 => ((a_s.f k t190).bind fun bt194 => (if bt194.2 = 0 then ((a_o.f k bt194.1).bind fun bt198 => (if bt198.2 = 0 then ((a_X.f k t190 bt198.1).bind fun t203 => (a_f.j0 k l1 bt194.1 (!t203))) else (a_f.j0 k l1 bt194.1 true))) else (a_f.j2 k l1)))) = some r:=by rw [if_pos rfl] at H;exact H
 clear H
 have H:=H1
 clear H1
 replace H:=Option.bind_eq_some_iff.mp H
 obtain ⟨t190,A50,H⟩:=H
 replace H : ((a_s.f k t190).bind fun bt194 => (if bt194.2 = 0 then ((a_o.f k bt194.1).bind fun bt198 => (if bt198.2 = 0 then ((a_X.f k t190 bt198.1).bind fun t203 => (a_f.j0 k l1 bt194.1 (!t203))) else (a_f.j0 k l1 bt194.1 true))) else (a_f.j2 k l1))) = some r:=H
 have A5:=a_a.mk A50
 clear A50
 replace H:=Option.bind_eq_some_iff.mp H
 obtain ⟨⟨t194,t197⟩,A60,H⟩:=H
 replace H : (if t197 = 0 then ((a_o.f k t194).bind fun bt198 => (if bt198.2 = 0 then ((a_X.f k t190 bt198.1).bind fun t203 => (a_f.j0 k l1 t194 (!t203))) else (a_f.j0 k l1 t194 true))) else (a_f.j2 k l1)) = some r:=H
 have A6:=a_a.mk A60
 clear A60
 have HC7:=a_a.mk H
 clear H
 go_enter Tryd.func3,Tryd.ntmps3
 go_upto_if 24 with (first|((with_reducible refine a_B (N:=2) rfl ?_);refine a_x ?hg (N:=2) ?hd (cs:=#[.slice A0_0 l0_0.length c0_0]) (t:=24) ?hr ?_;(case hd => rfl);(case hg => rfl);(case hr => first|(go_simp;done)|(go_simp;rfl));intro c_p hg w8 hbox hb;have b_y:=a_a.mk (hbox);have j_J:=a_a.mk ((by rw [hg];exact (a_g (lup_ HB.out)) : w.heap.size ≤ c_p));have b_w:=a_a.mk ((by rw [hg];exact (a_g (lup_ HB.out)) : w.heap.size ≤ c_p));replace HO1:=a_a.mk (Kd.b_E (Kd.b_x (by (with_reducible repeat (first|apply Kd.a_L|apply Kd.a_M|apply Kd.a_6));exact HO1.out) c_p (Nat.le_of_eq hg.symm)) hb);replace HB:=a_a.mk (a_i (lup_ HB.out) hb);clear hb hbox hg)|((with_reducible refine a_u (f:=10) rfl ?_);refine a_U (some 14) rfl rfl Tryd.func10 (by kernel_rfl) rfl #[] rfl (by (try simp only [List.map_toArray,List.map_cons,List.map_nil]);first|done|rfl|(simp only [List.length_drop,List.length_take];rfl)) ?_;(with_reducible refine (a_v.calls k  true _ ?side1 A3.out).mono ?_);(case side1 => exact b_Q.below HTAB_.out (by repeat (first|(with_reducible first|exact HB.out|apply a_d|apply a_b|apply a_e|refine a_c ?_ b_w.out)|exact HB.out)));rintro e w9 ⟨rfl,hb⟩;refine ⟨_,rfl,?_⟩;replace HO1:=a_a.mk (Kd.b_E (by (with_reducible repeat (first|apply Kd.a_L|apply Kd.a_M|apply Kd.a_6));exact HO1.out) hb);replace b_y:=a_a.mk (a_l (bup_ b_y.out) hb);replace HB:=a_a.mk (a_i (by repeat (first|(with_reducible first|exact HB.out|apply a_d|apply a_b|apply a_e|refine a_c ?_ b_w.out)|exact HB.out)) hb);(try clear hb);(try clear hb2);(try clear hk);(try clear hi);have d_q : w9.cell? ⟨c_p,0,none⟩ = some (.slice A0_0 l0_0.length c0_0):=(a_n b_y.out 0).trans rfl;have d_t:=a_k b_y.out 0)|((with_reducible refine a_u (f:=11) rfl ?_);refine a_U (some 17) rfl rfl Tryd.func11 (by kernel_rfl) rfl #[.agg #[.slice A0_0 l0_0.length c0_0]] rfl (by (try simp only [List.map_toArray,List.map_cons,List.map_nil]);first|done|rfl|(simp only [List.length_drop,List.length_take];rfl)) ?_;(with_reducible refine (a_P.calls _ _ l0_0 t190 _ ?side1 ?side2 A5.out).mono ?_);(case side1 => repeat (first|exact (Kd.a_K b_U.out HB.out)|(with_reducible refine Kd.a_F ?_ _)|(with_reducible refine Kd.a_G ?_ _)|(with_reducible refine Kd.a_W ?_)));(case side2 => exact b_1.out);rintro e w11 ⟨v191,rfl,ho0,hb⟩;refine ⟨_,rfl,?_⟩;have c_w:=a_a.mk (Kd.a_3 (Kd.c_B (M:=fun k_ => (w.heap.size ≤ k_)) ho0 (a_g (by repeat (first|(with_reducible first|exact HB.out|apply a_d|apply a_b|apply a_e|refine a_c ?_ b_w.out)|exact HB.out))) (fun k_ h_ => h_)) (a_g (by repeat (first|(with_reducible first|exact HB.out|apply a_d|apply a_b|apply a_e|refine a_c ?_ b_w.out)|exact HB.out))));replace HO1:=a_a.mk (Kd.b_n (by (with_reducible repeat (first|apply Kd.a_L|apply Kd.a_M|apply Kd.a_6));exact HO1.out) (Kd.b_q ho0) hb);replace b_y:=a_a.mk (a_l (bup_ b_y.out) hb);replace HB:=a_a.mk (a_i (by repeat (first|(with_reducible first|exact HB.out|apply a_d|apply a_b|apply a_e|refine a_c ?_ b_w.out)|exact HB.out)) hb);(try clear hb);(try clear hb2);(try clear hk);(try clear hi);(try clear ho0))|((with_reducible refine a_B (N:=5) rfl ?_);refine a_x ?hg (N:=5) ?hd (cs:=#[.slice none 0 0]) (t:=24) ?hr ?_;(case hd => rfl);(case hg => rfl);(case hr => first|(go_simp;done)|(go_simp;rfl));intro b_F hg w12 hbox hb;have a_0:=a_a.mk (hbox);have l_z:=a_a.mk ((by rw [hg];exact (a_g (by repeat (first|(with_reducible first|exact HB.out|apply a_d|apply a_b|apply a_e|refine a_c ?_ b_w.out)|exact HB.out))) : w.heap.size ≤ b_F));have a_2:=a_a.mk ((by rw [hg];exact (a_g (by repeat (first|(with_reducible first|exact HB.out|apply a_d|apply a_b|apply a_e|refine a_c ?_ b_w.out)|exact HB.out))) : w.heap.size ≤ b_F));have d_V:=a_a.mk ((by rw [hg];exact Nat.ne_of_lt (a_J (bup_ b_y.out)) : c_p ≠ b_F));have e_4:=a_a.mk ((by rw [hg];exact Nat.ne_of_gt (a_J (bup_ b_y.out)) : b_F ≠ c_p));replace HO1:=a_a.mk (Kd.b_E (Kd.b_x (by (with_reducible repeat (first|apply Kd.a_L|apply Kd.a_M|apply Kd.a_6));exact HO1.out) b_F (Nat.le_of_eq hg.symm)) hb);replace c_w:=a_a.mk (Kd.a_A (rup_ c_w.out) hb);replace b_y:=a_a.mk (a_l (bup_ b_y.out) hb);replace HB:=a_a.mk (a_i (by repeat (first|(with_reducible first|exact HB.out|apply a_d|apply a_b|apply a_e|refine a_c ?_ b_w.out)|exact HB.out)) hb);clear hb hbox hg;obtain ⟨Ao13,co13,eo13⟩:=Kd.a_7 c_w.out;subst eo13;have k_0:=e_4.out;have k_6:=d_V.out;have d_r : w12.cell? ⟨b_F,0,none⟩ = some (.slice none 0 0):=(a_n a_0.out 0).trans rfl;have d_u:=a_k a_0.out 0)|((with_reducible refine a_u (f:=12) rfl ?_);refine a_U (some 20) rfl rfl Tryd.func12 (by kernel_rfl) rfl #[.agg #[.slice Ao13 t190.length co13]] rfl (by (try simp only [List.map_toArray,List.map_cons,List.map_nil]);first|done|rfl|(simp only [List.length_drop,List.length_take];rfl)) ?_;(with_reducible refine (a_s.calls k _ _ t190 t194 t197 _ ?side1 ?side2 A6.out).mono ?_);(case side1 => refine (Kd.a_w (e:=56) (base:=w.heap.size) (ok:=fun k_ => ((w.heap.size ≤ k_) ∧ True)) (n:=t190.length) (c:=co13) ?_).2.2;exact (by (with_reducible repeat (first|apply Kd.a_H|apply Kd.a_I|apply Kd.a_O));exact (Kd.a_R (Kd.b_u (p:=⟨b_F,0,none⟩) (Kd.a_S c_w.out a_0.out (by decide)) (fun _ hk => hk.2) (.slice Ao13 t190.length co13)) (fun _ h_ => h_.1))));(case side2 => exact (Kd.a_w c_w.out).2.1);rintro e w16 ⟨v195,rfl,ho0,hb⟩;refine ⟨_,rfl,?_⟩;have d_S:=a_a.mk (Kd.a_3 (Kd.c_B (M:=fun k_ => (w.heap.size ≤ k_)) ho0 (a_g (by repeat (first|(with_reducible first|exact HB.out|apply a_d|apply a_b|apply a_e|refine a_c ?_ b_w.out|refine a_c ?_ a_2.out)|exact HB.out))) (fun k_ h_ => h_)) (a_g (by repeat (first|(with_reducible first|exact HB.out|apply a_d|apply a_b|apply a_e|refine a_c ?_ b_w.out|refine a_c ?_ a_2.out)|exact HB.out))));replace HO1:=a_a.mk (Kd.b_n (by (with_reducible repeat (first|apply Kd.a_L|apply Kd.a_M|apply Kd.a_6));exact (Kd.b_X (Kd.e_7 (p:=⟨b_F,0,none⟩) (Kd.b_X HO1.out (fun k_ hk => (⟨hk,hk.2⟩ : _ ∧ k_ ≠ b_F))) (fun _ hk => hk.2) (.slice Ao13 t190.length co13)) (fun _ h_ => h_.1))) (Kd.b_q ho0) hb);replace c_w:=a_a.mk (Kd.a_A (by (with_reducible repeat (first|apply Kd.a_H|apply Kd.a_I|apply Kd.a_O));exact (Kd.a_R (Kd.b_u (p:=⟨b_F,0,none⟩) (Kd.a_S c_w.out a_0.out (by decide)) (fun _ hk => hk.2) (.slice Ao13 t190.length co13)) (fun _ h_ => h_.1))) hb);replace b_y:=a_a.mk (a_l (g:=c_p) (o:=.cells #[.slice A0_0 l0_0.length c0_0] 24 (0,0)) (by (with_reducible repeat (first|refine a_j ?_ _|refine a_m ?_|refine a_h ?_ _));refine a_8 ?_ d_V.out _;(with_reducible repeat (first|refine a_j ?_ _|refine a_m ?_|refine a_h ?_ _));exact b_y.out) hb);replace a_0:=a_a.mk (a_l (g:=b_F) (o:=.cells #[.slice Ao13 t190.length co13] 24 (0,0)) (by (with_reducible repeat (first|refine a_j ?_ _|refine a_m ?_|refine a_h ?_ _));refine a_5 (cs:=#[.slice none 0 0]) ?_ 0 _ rfl;(with_reducible repeat (first|refine a_j ?_ _|refine a_m ?_|refine a_h ?_ _));exact a_0.out) hb);replace HB:=a_a.mk (a_i (by repeat (first|(with_reducible first|exact HB.out|apply a_d|apply a_b|apply a_e|refine a_c ?_ b_w.out|refine a_c ?_ a_2.out)|exact HB.out)) hb);(try clear hb);(try clear hb2);(try clear hk);(try clear hi);(try clear ho0)))
 (try simp only [Act.put,sa_,sb_,sc_])
 go_cut [] (fun wc => ∃ (kq : Nat),a_a (a_f.j2 kq l1 = some r) ∧ a_a (kq ≤ k) ∧ a_a (Kd.V (Kd.int .u8) 5 wc w.heap.size (fun k_ => (P1_ k_ ∨ w.heap.size ≤ k_) ∧ some k_ ≠ ((.slice Ao13 t190.length co13) : Value).ownBlock ∧ k_ ≠ b_F) (.slice A1 l1.length c1) l1) ∧ a_a (Kd.R k56 56 wc w.heap.size (fun k_ => (w.heap.size ≤ k_)) (.slice Ao13 t190.length co13) t190) ∧ a_a (wc.heap[b_F]? = some (.cells #[(.slice Ao13 t190.length co13)] 24 (0,0))) ∧ a_a (Below w.heap.size w wc))
 case first =>
  have H:=HC7.out
  clear HC7
  by_cases c17 : t197 = 0
  rotate_left
  ·rw [if_neg c17] at H
   have c17b0 : (t197 == 0) = false:=beq_eq_false_iff_ne.mpr c17
   have c17b1 : (t197 != 0) = true:=bne_iff_ne.mpr c17
   (first|rw [c17b0]|(simp only [b_7,b_8];rw [c17b0])|skip)
   have H':=a_a.mk H
   clear H
   go_wp2
   go_meet
   case rel => exact ⟨_,H',⟨by first|omega|exact Nat.le_refl _⟩,⟨by (with_reducible repeat (first|apply Kd.a_L|apply Kd.a_M|apply Kd.a_6));exact Kd.b_X HO1.out (fun _ hk => ⟨hk.1.1.1.1,⟨hk.1.1.2,hk.1.2⟩⟩)⟩,⟨by (with_reducible repeat (first|apply Kd.a_H|apply Kd.a_I|apply Kd.a_O));exact Kd.a_R c_w.out (fun _ hk => hk.1)⟩,⟨by (with_reducible repeat (first|refine a_j ?_ _|refine a_m ?_|refine a_h ?_ _));exact a_0.out⟩,⟨by repeat (first|(with_reducible first|exact HB.out|apply a_d|apply a_b|apply a_e|refine a_c ?_ b_w.out|refine a_c ?_ a_2.out)|exact HB.out)⟩⟩
  rw [if_pos c17] at H
  have c17b0 : (t197 == 0) = true:=beq_iff_eq.mpr c17
  have c17b1 : (t197 != 0) = false:=bne_eq_false_iff_eq.mpr c17
  clear c17
  (first|rw [c17b0]|(simp only [b_7,b_8];rw [c17b0])|skip)
  replace H:=Option.bind_eq_some_iff.mp H
  obtain ⟨⟨t198,t201⟩,A180,H⟩:=H
  replace H : (if t201 = 0 then ((a_X.f k t190 t198).bind fun t203 => (a_f.j0 k l1 t194 (!t203))) else (a_f.j0 k l1 t194 true)) = some r:=H
  have A18:=a_a.mk A180
  clear A180
  have HC19:=a_a.mk H
  clear H
  obtain ⟨Ao20,co20,eo20⟩:=Kd.a_7 d_S.out
  subst eo20
  go_upto_region 7 with (first|((with_reducible refine a_u (f:=13) rfl ?_);refine a_U (some 27) rfl rfl Tryd.func13 (by kernel_rfl) rfl #[.slice Ao20 t194.length co20] rfl (by (try simp only [List.map_toArray,List.map_cons,List.map_nil]);first|done|rfl|(simp only [List.length_drop,List.length_take];rfl)) ?_;(with_reducible refine (a_o.calls k _ _ t194 t198 t201 _ ?side1 ?side2 A18.out).mono ?_);(case side1 => repeat (first|exact (Kd.a_w d_S.out).2.2|(with_reducible refine Kd.a_F ?_ _)|(with_reducible refine Kd.a_G ?_ _)|(with_reducible refine Kd.a_W ?_)));(case side2 => exact (Kd.a_w d_S.out).2.1);rintro e w21 ⟨v199,rfl,ho0,hb⟩;refine ⟨_,rfl,?_⟩;have e_F:=a_a.mk (Kd.a_3 (Kd.c_H (Kd.c_B (M:=fun k_ => (w.heap.size ≤ k_)) ho0 (a_g (by repeat (first|(with_reducible first|exact HB.out|apply a_d|apply a_b|apply a_e|refine a_c ?_ b_w.out|refine a_c ?_ a_2.out)|exact HB.out))) (fun k_ h_ => h_)) (Kd.R_lt (rup_ c_w.out))) (a_g (by repeat (first|(with_reducible first|exact HB.out|apply a_d|apply a_b|apply a_e|refine a_c ?_ b_w.out|refine a_c ?_ a_2.out)|exact HB.out))));replace HO1:=a_a.mk (Kd.b_n (by (with_reducible repeat (first|apply Kd.a_L|apply Kd.a_M|apply Kd.a_6));exact HO1.out) (Kd.b_q ho0) hb);replace c_w:=a_a.mk (Kd.b_5 (rup_ c_w.out) (Kd.b_q ho0) hb);replace d_S:=a_a.mk (Kd.a_A (rup_ d_S.out) hb);replace b_y:=a_a.mk (a_l (bup_ b_y.out) hb);replace a_0:=a_a.mk (a_l (bup_ a_0.out) hb);replace HB:=a_a.mk (a_i (by repeat (first|(with_reducible first|exact HB.out|apply a_d|apply a_b|apply a_e|refine a_c ?_ b_w.out|refine a_c ?_ a_2.out)|exact HB.out)) hb);(try clear hb);(try clear hb2);(try clear hk);(try clear hi);(try clear ho0))|((with_reducible refine a_B (N:=8) rfl ?_);refine a_x ?hg (N:=8) ?hd (cs:=#[.slice none 0 0]) (t:=24) ?hr ?_;(case hd => rfl);(case hg => rfl);(case hr => first|(go_simp;done)|(go_simp;rfl));intro b_0 hg w22 hbox hb;have b_V:=a_a.mk (hbox);have l_A:=a_a.mk ((by rw [hg];exact (a_g (by repeat (first|(with_reducible first|exact HB.out|apply a_d|apply a_b|apply a_e|refine a_c ?_ b_w.out|refine a_c ?_ a_2.out)|exact HB.out))) : w.heap.size ≤ b_0));have c_u:=a_a.mk ((by rw [hg];exact (a_g (by repeat (first|(with_reducible first|exact HB.out|apply a_d|apply a_b|apply a_e|refine a_c ?_ b_w.out|refine a_c ?_ a_2.out)|exact HB.out))) : w.heap.size ≤ b_0));have c_9:=a_a.mk ((by rw [hg];exact Nat.ne_of_lt (a_J (bup_ b_y.out)) : c_p ≠ b_0));have e_5:=a_a.mk ((by rw [hg];exact Nat.ne_of_gt (a_J (bup_ b_y.out)) : b_0 ≠ c_p));have d_b:=a_a.mk ((by rw [hg];exact Nat.ne_of_lt (a_J (bup_ a_0.out)) : b_F ≠ b_0));have e_6:=a_a.mk ((by rw [hg];exact Nat.ne_of_gt (a_J (bup_ a_0.out)) : b_0 ≠ b_F));replace HO1:=a_a.mk (Kd.b_E (Kd.b_x (by (with_reducible repeat (first|apply Kd.a_L|apply Kd.a_M|apply Kd.a_6));exact HO1.out) b_0 (Nat.le_of_eq hg.symm)) hb);replace c_w:=a_a.mk (Kd.a_A (rup_ c_w.out) hb);replace d_S:=a_a.mk (Kd.a_A (rup_ d_S.out) hb);replace e_F:=a_a.mk (Kd.a_A (rup_ e_F.out) hb);replace b_y:=a_a.mk (a_l (bup_ b_y.out) hb);replace a_0:=a_a.mk (a_l (bup_ a_0.out) hb);replace HB:=a_a.mk (a_i (by repeat (first|(with_reducible first|exact HB.out|apply a_d|apply a_b|apply a_e|refine a_c ?_ b_w.out|refine a_c ?_ a_2.out)|exact HB.out)) hb);clear hb hbox hg;obtain ⟨Ao23,co23,eo23⟩:=Kd.a_7 e_F.out;subst eo23;have l_G:=e_5.out;have l_6:=c_9.out;have k_1:=e_6.out;have k_7:=d_b.out;have e_N : w22.cell? ⟨b_0,0,none⟩ = some (.slice none 0 0):=(a_n b_V.out 0).trans rfl;have e_P:=a_k b_V.out 0))
  (try simp only [Act.put,sa_,sb_,sc_])
  go_cut [37] (fun v37 wc => ∃ (kq : Nat) (x37_18 : Bool),v37 = .bool x37_18 ∧ a_a (a_f.j0 kq l1 t194 x37_18 = some r) ∧ a_a (kq ≤ k) ∧ a_a (Kd.V (Kd.int .u8) 5 wc w.heap.size (fun k_ => (P1_ k_ ∨ w.heap.size ≤ k_) ∧ some k_ ≠ ((.slice Ao20 t194.length co20) : Value).ownBlock ∧ some k_ ≠ ((.slice Ao13 t190.length co13) : Value).ownBlock ∧ some k_ ≠ ((.slice Ao23 t198.length co23) : Value).ownBlock ∧ k_ ≠ c_p ∧ k_ ≠ b_F ∧ k_ ≠ b_0) (.slice A1 l1.length c1) l1) ∧ a_a (Kd.R (Kd.int .u8) 5 wc w.heap.size (fun k_ => (w.heap.size ≤ k_)) (.slice Ao20 t194.length co20) t194) ∧ a_a (Kd.R k56 56 wc w.heap.size (fun k_ => (w.heap.size ≤ k_) ∧ some k_ ≠ ((.slice Ao23 t198.length co23) : Value).ownBlock) (.slice Ao13 t190.length co13) t190) ∧ a_a (Kd.R k56 56 wc w.heap.size (fun k_ => (w.heap.size ≤ k_) ∧ some k_ ≠ ((.slice Ao13 t190.length co13) : Value).ownBlock) (.slice Ao23 t198.length co23) t198) ∧ a_a (wc.heap[c_p]? = some (.cells #[(.slice A0_0 l0_0.length c0_0)] 24 (0,0))) ∧ a_a (wc.heap[b_F]? = some (.cells #[(.slice Ao13 t190.length co13)] 24 (0,0))) ∧ a_a (wc.heap[b_0]? = some (.cells #[(.slice Ao23 t198.length co23)] 24 (0,0))) ∧ a_a (Below w.heap.size w wc))
  case first =>
   have H:=HC19.out
   clear HC19
   by_cases c27 : t201 = 0
   rotate_left
   ·rw [if_neg c27] at H
    have c27b0 : (t201 == 0) = false:=beq_eq_false_iff_ne.mpr c27
    have c27b1 : (t201 != 0) = true:=bne_iff_ne.mpr c27
    (first|rw [c27b0]|(simp only [b_7,b_8];rw [c27b0])|skip)
    have H':=a_a.mk H
    clear H
    go_wp2
    go_meet
    case rel => exact ⟨_,(true),(by first|rfl|(simp;done)|(simp [*];done)),H',⟨by first|omega|exact Nat.le_refl _⟩,⟨by (with_reducible repeat (first|apply Kd.a_L|apply Kd.a_M|apply Kd.a_6));exact Kd.b_X (Kd.e_7 (p:=⟨b_0,0,none⟩) (Kd.b_X HO1.out (fun k_ hk => (⟨hk,hk.2⟩ : _ ∧ k_ ≠ b_0))) (fun _ hk => hk.2) (.slice Ao23 t198.length co23)) (fun _ hk => ⟨hk.1.1.1.1.1.1.1,⟨hk.1.1.1.2,⟨hk.1.1.1.1.1.2,⟨hk.1.1.2,⟨hk.1.1.1.1.1.1.2,⟨hk.1.1.1.1.2,hk.1.2⟩⟩⟩⟩⟩⟩)⟩,⟨by (with_reducible repeat (first|apply Kd.a_H|apply Kd.a_I|apply Kd.a_O));exact Kd.a_R (Kd.b_u (p:=⟨b_0,0,none⟩) (Kd.a_S d_S.out b_V.out (by decide)) (fun _ hk => hk.2) (.slice Ao23 t198.length co23)) (fun _ hk => hk.1.1)⟩,⟨by (with_reducible repeat (first|apply Kd.a_H|apply Kd.a_I|apply Kd.a_O));exact Kd.a_R (Kd.b_u (p:=⟨b_0,0,none⟩) (Kd.a_S c_w.out b_V.out (by decide)) (fun _ hk => hk.2) (.slice Ao23 t198.length co23)) (fun _ hk => ⟨hk.1.1.1,hk.1.2⟩)⟩,⟨by (with_reducible repeat (first|apply Kd.a_H|apply Kd.a_I|apply Kd.a_O));exact Kd.a_R (Kd.b_u (p:=⟨b_0,0,none⟩) (Kd.a_S e_F.out b_V.out (by decide)) (fun _ hk => hk.2) (.slice Ao23 t198.length co23)) (fun _ hk => ⟨hk.1.1.1,hk.1.2⟩)⟩,⟨by (with_reducible repeat (first|refine a_j ?_ _|refine a_m ?_|refine a_h ?_ _));refine a_8 ?_ c_9.out _;(with_reducible repeat (first|refine a_j ?_ _|refine a_m ?_|refine a_h ?_ _));exact b_y.out⟩,⟨by (with_reducible repeat (first|refine a_j ?_ _|refine a_m ?_|refine a_h ?_ _));refine a_8 ?_ d_b.out _;(with_reducible repeat (first|refine a_j ?_ _|refine a_m ?_|refine a_h ?_ _));exact a_0.out⟩,⟨by (with_reducible repeat (first|refine a_j ?_ _|refine a_m ?_|refine a_h ?_ _));refine a_5 (cs:=#[.slice none 0 0]) ?_ 0 _ rfl;(with_reducible repeat (first|refine a_j ?_ _|refine a_m ?_|refine a_h ?_ _));exact b_V.out⟩,⟨by repeat (first|(with_reducible first|exact HB.out|apply a_d|apply a_b|apply a_e|refine a_c ?_ b_w.out|refine a_c ?_ a_2.out|refine a_c ?_ c_u.out)|exact HB.out)⟩⟩
   rw [if_pos c27] at H
   have c27b0 : (t201 == 0) = true:=beq_iff_eq.mpr c27
   have c27b1 : (t201 != 0) = false:=bne_eq_false_iff_eq.mpr c27
   clear c27
   (first|rw [c27b0]|(simp only [b_7,b_8];rw [c27b0])|skip)
   replace H:=Option.bind_eq_some_iff.mp H
   obtain ⟨t203,A280,H⟩:=H
   replace H : (a_f.j0 k l1 t194 (!t203)) = some r:=H
   have A28:=a_a.mk A280
   clear A280
   have H':=a_a.mk H
   clear H
   have k_2:=e_4.out
   have k_8:=d_V.out
   have k_3:=d_b.out
   have k_9:=e_6.out
   have e_O : w22.cell? ⟨b_F,0,none⟩ = some (.slice Ao13 t190.length co13):=(a_n a_0.out 0).trans rfl
   have e_Q:=a_k a_0.out 0
   have k_4:=e_5.out
   have l_a:=c_9.out
   have d_s : w22.cell? ⟨b_0,0,none⟩ = some (.slice none 0 0):=(a_n b_V.out 0).trans rfl
   have d_v:=a_k b_V.out 0
   go_wp2_with (first|(go_at_call 14;(with_reducible refine (a_X.calls k _ _ t190 _ _ t198 t203 _ ?side1 ?side2 ?side3 ?side4 A28.out).mono ?_);(case side1 => refine (Kd.a_w (e:=56) (base:=w.heap.size) (ok:=fun k_ => (((w.heap.size ≤ k_) ∧ True) ∧ some k_ ≠ (.slice Ao23 t198.length co23 : Value).ownBlock)) (n:=t190.length) (c:=co13) ?_).2.2;exact (by (with_reducible repeat (first|apply Kd.a_H|apply Kd.a_I|apply Kd.a_O));exact (Kd.a_R (Kd.b_u (p:=⟨b_0,0,none⟩) (Kd.a_S c_w.out b_V.out (by decide)) (fun _ hk => hk.2) (.slice Ao23 t198.length co23)) (fun _ h_ => h_.1))));(case side2 => exact (Kd.a_w c_w.out).2.1);(case side3 => refine (Kd.a_w (e:=56) (base:=w.heap.size) (ok:=fun k_ => (((w.heap.size ≤ k_) ∧ True) ∧ some k_ ≠ (.slice Ao13 t190.length co13 : Value).ownBlock)) (n:=t198.length) (c:=co23) ?_).2.2;exact (by (with_reducible repeat (first|apply Kd.a_H|apply Kd.a_I|apply Kd.a_O));exact (Kd.a_R (Kd.b_u (p:=⟨b_0,0,none⟩) (Kd.a_S e_F.out b_V.out (by decide)) (fun _ hk => hk.2) (.slice Ao23 t198.length co23)) (fun _ h_ => h_.1))));(case side4 => exact (Kd.a_w e_F.out).2.1);rintro e w34 ⟨rfl,hb⟩;replace HO1:=a_a.mk (Kd.b_E (by (with_reducible repeat (first|apply Kd.a_L|apply Kd.a_M|apply Kd.a_6));exact (Kd.b_X (Kd.e_7 (p:=⟨b_0,0,none⟩) (Kd.b_X HO1.out (fun k_ hk => (⟨hk,hk.2⟩ : _ ∧ k_ ≠ b_0))) (fun _ hk => hk.2) (.slice Ao23 t198.length co23)) (fun _ h_ => h_.1))) hb);replace c_w:=a_a.mk (Kd.a_A (by (with_reducible repeat (first|apply Kd.a_H|apply Kd.a_I|apply Kd.a_O));exact (Kd.a_R (Kd.b_u (p:=⟨b_0,0,none⟩) (Kd.a_S c_w.out b_V.out (by decide)) (fun _ hk => hk.2) (.slice Ao23 t198.length co23)) (fun _ h_ => h_.1))) hb);replace d_S:=a_a.mk (Kd.a_A (by (with_reducible repeat (first|apply Kd.a_H|apply Kd.a_I|apply Kd.a_O));exact (Kd.a_R (Kd.b_u (p:=⟨b_0,0,none⟩) (Kd.a_S d_S.out b_V.out (by decide)) (fun _ hk => hk.2) (.slice Ao23 t198.length co23)) (fun _ h_ => h_.1))) hb);replace e_F:=a_a.mk (Kd.a_A (by (with_reducible repeat (first|apply Kd.a_H|apply Kd.a_I|apply Kd.a_O));exact (Kd.a_R (Kd.b_u (p:=⟨b_0,0,none⟩) (Kd.a_S e_F.out b_V.out (by decide)) (fun _ hk => hk.2) (.slice Ao23 t198.length co23)) (fun _ h_ => h_.1))) hb);replace b_y:=a_a.mk (a_l (g:=c_p) (o:=.cells #[.slice A0_0 l0_0.length c0_0] 24 (0,0)) (by (with_reducible repeat (first|refine a_j ?_ _|refine a_m ?_|refine a_h ?_ _));refine a_8 ?_ c_9.out _;(with_reducible repeat (first|refine a_j ?_ _|refine a_m ?_|refine a_h ?_ _));exact b_y.out) hb);replace a_0:=a_a.mk (a_l (g:=b_F) (o:=.cells #[.slice Ao13 t190.length co13] 24 (0,0)) (by (with_reducible repeat (first|refine a_j ?_ _|refine a_m ?_|refine a_h ?_ _));refine a_8 ?_ d_b.out _;(with_reducible repeat (first|refine a_j ?_ _|refine a_m ?_|refine a_h ?_ _));exact a_0.out) hb);replace b_V:=a_a.mk (a_l (g:=b_0) (o:=.cells #[.slice Ao23 t198.length co23] 24 (0,0)) (by (with_reducible repeat (first|refine a_j ?_ _|refine a_m ?_|refine a_h ?_ _));refine a_5 (cs:=#[.slice none 0 0]) ?_ 0 _ rfl;(with_reducible repeat (first|refine a_j ?_ _|refine a_m ?_|refine a_h ?_ _));exact b_V.out) hb);replace HB:=a_a.mk (a_i (by repeat (first|(with_reducible first|exact HB.out|apply a_d|apply a_b|apply a_e|refine a_c ?_ b_w.out|refine a_c ?_ a_2.out|refine a_c ?_ c_u.out)|exact HB.out)) hb);(try clear hb);(try clear hb2);(try clear hk);(try clear hi)))
   go_meet
   case rel => exact ⟨_,(!t203),(by first|rfl|(simp;done)|(simp [*];done)),H',⟨by first|omega|exact Nat.le_refl _⟩,⟨by (with_reducible repeat (first|apply Kd.a_L|apply Kd.a_M|apply Kd.a_6));exact Kd.b_X HO1.out (fun _ hk => ⟨hk.1.1.1.1.1.1,⟨hk.1.1.2,⟨hk.1.1.1.1.2,⟨hk.1.2,⟨hk.1.1.1.1.1.2,⟨hk.1.1.1.2,hk.2⟩⟩⟩⟩⟩⟩)⟩,⟨by (with_reducible repeat (first|apply Kd.a_H|apply Kd.a_I|apply Kd.a_O));exact Kd.a_R d_S.out (fun _ hk => hk.1)⟩,⟨by (with_reducible repeat (first|apply Kd.a_H|apply Kd.a_I|apply Kd.a_O));exact Kd.a_R c_w.out (fun _ hk => ⟨hk.1.1,hk.2⟩)⟩,⟨by (with_reducible repeat (first|apply Kd.a_H|apply Kd.a_I|apply Kd.a_O));exact Kd.a_R e_F.out (fun _ hk => ⟨hk.1.1,hk.2⟩)⟩,⟨by (with_reducible repeat (first|refine a_j ?_ _|refine a_m ?_|refine a_h ?_ _));exact b_y.out⟩,⟨by (with_reducible repeat (first|refine a_j ?_ _|refine a_m ?_|refine a_h ?_ _));exact a_0.out⟩,⟨by (with_reducible repeat (first|refine a_j ?_ _|refine a_m ?_|refine a_h ?_ _));exact b_V.out⟩,⟨by repeat (first|(with_reducible first|exact HB.out|apply a_d|apply a_b|apply a_e|refine a_c ?_ b_w.out|refine a_c ?_ a_2.out|refine a_c ?_ c_u.out)|exact HB.out)⟩⟩
  case rest =>
   clear HC19
   try clear c1
   try clear c2
   try clear p2
   try clear c3
   try clear c4
   try clear c10
   try clear c11
   try clear c12
   try clear c13
   try clear c14
   try clear c17
   try clear c17b0
   try clear c17b1
   try clear c24
   try clear c25
   try clear c27
   try clear c27b0
   try clear c27b1
   try clear c29
   try clear c30
   try clear c32
   try clear d_q
   try clear d_r
   try clear e_N
   try clear e_O
   try clear d_s
   try clear d_t
   try clear d_u
   try clear e_P
   try clear e_Q
   try clear d_v
   obtain ⟨kq,x37_18,rfl,HA,HJ18,HO_1,HO_6,a_z,b_z,b_y,a_0,b_V,HB⟩:=hcut
   cases kq with
   | zero => exact absurd HA.out (by simp [a_f.j0])
   | succ kj18 =>
    have H:=HA.out
    clear HA
    simp only [a_f.j0] at H
    by_cases c35 : x37_18 = true
    ·subst c35
     have H1 : (some false) = some r:=by rw [if_pos rfl] at H;exact H
     clear H
     have H:=H1
     clear H1
     obtain rfl:=Option.some.inj H
     go_wp2
     go_ret
     exact ⟨by first|rfl|(simp [a_p,a_q] <;> rfl)|(simp [*, a_p,a_q] <;> rfl),by repeat (first|(with_reducible first|exact HB.out|apply a_d|apply a_b|apply a_e|refine a_c ?_ b_w.out|refine a_c ?_ a_2.out|refine a_c ?_ c_u.out)|exact HB.out)⟩
    replace c35:=Bool.eq_false_iff.mpr c35
    subst c35
    have H1 : (a_f.l0 kj18 l1 t194 (t194.length : Int) 0) = some r:=by rw [if_neg (show ¬ (false = true) by decide)] at H;exact H
    clear H
    have H:=H1
    clear H1
    have H':=a_a.mk H
    clear H
    go_wp2
    go_loopg [40] kj18 (fun kq v40 w' => ∃ (x40_2 : Int),v40 = .int .i64 x40_2 ∧ a_a (a_f.l0 kq l1 t194 (t194.length : Int) x40_2 = some r) ∧ a_a (kq ≤ kj18) ∧ a_a (Kd.V (Kd.int .u8) 5 w' w.heap.size (fun k_ => (P1_ k_ ∨ w.heap.size ≤ k_) ∧ some k_ ≠ ((.slice Ao20 t194.length co20) : Value).ownBlock ∧ some k_ ≠ ((.slice Ao13 t190.length co13) : Value).ownBlock ∧ some k_ ≠ ((.slice Ao23 t198.length co23) : Value).ownBlock ∧ k_ ≠ c_p ∧ k_ ≠ b_F ∧ k_ ≠ b_0) (.slice A1 l1.length c1) l1) ∧ a_a (Kd.R (Kd.int .u8) 5 w' w.heap.size (fun k_ => (w.heap.size ≤ k_)) (.slice Ao20 t194.length co20) t194) ∧ a_a (Kd.R k56 56 w' w.heap.size (fun k_ => (w.heap.size ≤ k_) ∧ some k_ ≠ ((.slice Ao23 t198.length co23) : Value).ownBlock) (.slice Ao13 t190.length co13) t190) ∧ a_a (Kd.R k56 56 w' w.heap.size (fun k_ => (w.heap.size ≤ k_) ∧ some k_ ≠ ((.slice Ao13 t190.length co13) : Value).ownBlock) (.slice Ao23 t198.length co23) t198) ∧ a_a (w'.heap[c_p]? = some (.cells #[(.slice A0_0 l0_0.length c0_0)] 24 (0,0))) ∧ a_a (w'.heap[b_F]? = some (.cells #[(.slice Ao13 t190.length co13)] 24 (0,0))) ∧ a_a (w'.heap[b_0]? = some (.cells #[(.slice Ao23 t198.length co23)] 24 (0,0))) ∧ a_a (Below w.heap.size w w'))
    case atStart => exact ⟨(0),(by first|rfl|(simp;done)|(simp [*];done)),H',⟨Nat.le_refl _⟩,⟨by (with_reducible repeat (first|apply Kd.a_L|apply Kd.a_M|apply Kd.a_6));exact HO_1.out⟩,⟨by (with_reducible repeat (first|apply Kd.a_H|apply Kd.a_I|apply Kd.a_O));exact HO_6.out⟩,⟨by (with_reducible repeat (first|apply Kd.a_H|apply Kd.a_I|apply Kd.a_O));exact a_z.out⟩,⟨by (with_reducible repeat (first|apply Kd.a_H|apply Kd.a_I|apply Kd.a_O));exact b_z.out⟩,⟨by (with_reducible repeat (first|refine a_j ?_ _|refine a_m ?_|refine a_h ?_ _));exact b_y.out⟩,⟨by (with_reducible repeat (first|refine a_j ?_ _|refine a_m ?_|refine a_h ?_ _));exact a_0.out⟩,⟨by (with_reducible repeat (first|refine a_j ?_ _|refine a_m ?_|refine a_h ?_ _));exact b_V.out⟩,⟨by repeat (first|(with_reducible first|exact HB.out|apply a_d|apply a_b|apply a_e|refine a_c ?_ b_w.out|refine a_c ?_ a_2.out|refine a_c ?_ c_u.out)|exact HB.out)⟩⟩
    case round =>
     clear H'
     try clear c1
     try clear c2
     try clear p2
     try clear c3
     try clear c4
     try clear c10
     try clear c11
     try clear c12
     try clear c13
     try clear c14
     try clear c17
     try clear c17b0
     try clear c17b1
     try clear c24
     try clear c25
     try clear c27
     try clear c27b0
     try clear c27b1
     try clear c29
     try clear c30
     try clear c32
     try clear c35
     try clear d_q
     try clear d_r
     try clear e_N
     try clear e_O
     try clear d_s
     try clear d_t
     try clear d_u
     try clear e_P
     try clear e_Q
     try clear d_v
     try clear p2
     obtain ⟨x40_2,rfl,HA,HK2,HO_1,HO_6,a_z,b_z,b_y,a_0,b_V,HB⟩:=hrel
     cases gk with
     | zero => exact absurd HA.out (by simp [a_f.l0])
     | succ k2 =>
      have H:=HA.out
      clear HA
      simp only [a_f.l0] at H
      by_cases c36 : x40_2 < (t194.length : Int)
      rotate_left
      ·rw [if_neg c36] at H
       have c36b0 : decide (x40_2 < (t194.length : Int)) = false:=decide_eq_false c36
       clear c36
       have H':=a_a.mk H
       clear H
       go_wp2
       go_meet
       case rel => exact ⟨_,H',⟨by have:=HJ18.out;have:=HK2.out;first|omega|exact Nat.le_refl _⟩,⟨by (with_reducible repeat (first|apply Kd.a_L|apply Kd.a_M|apply Kd.a_6));exact Kd.b_X HO_1.out (fun _ hk => ⟨hk.1,⟨hk.2.2.1,hk.2.2.2.2.2.1⟩⟩)⟩,⟨by (with_reducible repeat (first|apply Kd.a_H|apply Kd.a_I|apply Kd.a_O));exact Kd.a_R a_z.out (fun _ hk => hk.1)⟩,⟨by (with_reducible repeat (first|refine a_j ?_ _|refine a_m ?_|refine a_h ?_ _));exact a_0.out⟩,⟨by repeat (first|(with_reducible first|exact HB.out|apply a_d|apply a_b|apply a_e|refine a_c ?_ b_w.out|refine a_c ?_ a_2.out|refine a_c ?_ c_u.out)|exact HB.out)⟩⟩
      rw [if_pos c36] at H
      have c36b0 : decide (x40_2 < (t194.length : Int)) = true:=decide_eq_true c36
      clear c36
      by_cases c37 : 0 ≤ x40_2
      rotate_left
      ·rw [if_neg c37] at H
       exact absurd H (by simp)
      rw [if_pos c37] at H
      have c37b0:=eq_true c37
      have c37b1 : decide (0 ≤ x40_2) = true:=decide_eq_true c37
      clear c37
      by_cases c38 : x40_2 ≤ (t194.length : Int)
      rotate_left
      ·rw [if_neg c38] at H
       exact absurd H (by simp)
      rw [if_pos c38] at H
      have c38b0:=eq_true c38
      have c38b1 : decide (x40_2 ≤ (t194.length : Int)) = true:=decide_eq_true c38
      clear c38
      obtain ⟨y204,hy204⟩ : ∃ y_ : List Int,y_ = (t194.take (x40_2 : Int).toNat):=⟨_,rfl⟩
      replace H : ((a_o.f k2 y204).bind fun bt208 => (if bt208.2 = 7 then (a_f.l0 k2 l1 t194 (t194.length : Int) (wrap64 (x40_2 + 1))) else (some false))) = some r:=by first|(rw [hy204];with_reducible exact H)|(have H2_:=(Option.bind_some _ _).symm.trans H;rw [hy204];with_reducible exact H2_)|(have H2_:=(Option.bind_some _ _).symm.trans H;with_reducible exact H2_)|with_reducible exact H|(rw [hy204];exact H)|exact H
      have Ny204:=a_a.mk hy204
      clear hy204
      replace H:=Option.bind_eq_some_iff.mp H
      obtain ⟨⟨t208,t211⟩,A390,H⟩:=H
      replace H : (if t211 = 7 then (a_f.l0 k2 l1 t194 (t194.length : Int) (wrap64 (x40_2 + 1))) else (some false)) = some r:=H
      have A39:=a_a.mk A390
      clear A390
      by_cases c40 : t211 = 7
      rotate_left
      ·rw [if_neg c40] at H
       have c40b0 : (t211 == 7) = false:=beq_eq_false_iff_ne.mpr c40
       have c40b1 : (t211 != 7) = true:=bne_iff_ne.mpr c40
       obtain rfl:=Option.some.inj H
       have q49 : (x40_2 : Int) ≤ ((t194.length : Int) : Int):=of_decide_eq_true (by first|(with_reducible assumption)|assumption)
       obtain ⟨i049,j_j,_,hsz49,_⟩:=info_parts info5
       have hroom49 : t194.length ≤ co20:=(Kd.a_w HO_6.out).2.1
       have hC49 : Kd.C (Kd.int .u8) _ Ao20 t194.length t194:=(Kd.a_w HO_6.out).2.2
       have hcut49:=d_C (P:=Tryd.prog) 25 5 .i64 Tryd.underlying25 j_j Ao20 t194.length co20 x40_2 (of_decide_eq_true (by first|(with_reducible assumption)|assumption)) q49 hroom49
       have hr49:=Kd.f_N (m:=(x40_2 : Int).toNat) hC49 (by omega)
       have hy49 : y204.length = (x40_2 : Int).toNat:=(by rw [Ny204.out,List.length_take];omega)
       rw [← Ny204.out] at hr49
       rw [← hy49] at hcut49
       have c_F:=a_a.mk hr49
       have h_0:=a_a.mk (show y204.length ≤ co20 from by omega)
       clear hr49 hC49 hroom49 j_j hsz49
       have KY49:=a_a.mk hy49
       clear hy49
       have KL49:=a_a.mk (show (x40_2 : Int).toNat ≤ t194.length from by omega)
       replace q49:=eq_true q49
       go_wp2_with (first|((with_reducible refine a_u (f:=13) rfl ?_);refine a_U (some 47) rfl rfl Tryd.func13 (by kernel_rfl) rfl #[.slice Ao20 y204.length co20] rfl (by (try simp only [List.map_toArray,List.map_cons,List.map_nil]);first|done|rfl|(simp only [List.length_drop,List.length_take];rfl)) ?_;(with_reducible refine (a_o.calls k2 _ _ y204 t208 t211 _ ?side1 ?side2 A39.out).mono ?_);(case side1 => repeat (first|exact (by repeat (first|(with_reducible exact c_F.out)|(with_reducible refine Kd.a_F ?_ _)|(with_reducible refine Kd.a_G ?_ _)|(with_reducible refine Kd.a_W ?_)|exact c_F.out))|(with_reducible refine Kd.a_F ?_ _)|(with_reducible refine Kd.a_G ?_ _)|(with_reducible refine Kd.a_W ?_)));(case side2 => exact h_0.out);rintro e w50 ⟨v209,rfl,ho0,hb⟩;refine ⟨_,rfl,?_⟩;have f_u:=a_a.mk (Kd.a_3 (Kd.c_H (Kd.c_H (Kd.c_B (M:=fun k_ => (w.heap.size ≤ k_)) ho0 (a_g (by repeat (first|(with_reducible first|exact HB.out|apply a_d|apply a_b|apply a_e|refine a_c ?_ b_w.out|refine a_c ?_ a_2.out|refine a_c ?_ c_u.out)|exact HB.out))) (fun k_ h_ => h_)) (Kd.R_lt (rup_ a_z.out))) (Kd.R_lt (rup_ b_z.out))) (a_g (by repeat (first|(with_reducible first|exact HB.out|apply a_d|apply a_b|apply a_e|refine a_c ?_ b_w.out|refine a_c ?_ a_2.out|refine a_c ?_ c_u.out)|exact HB.out))));replace HO_1:=a_a.mk (Kd.b_n (by (with_reducible repeat (first|apply Kd.a_L|apply Kd.a_M|apply Kd.a_6));exact HO_1.out) (Kd.b_q ho0) hb);replace HO_6:=a_a.mk (Kd.a_A (rup_ HO_6.out) hb);replace a_z:=a_a.mk (Kd.b_5 (rup_ a_z.out) (Kd.b_q ho0) hb);replace b_z:=a_a.mk (Kd.b_5 (rup_ b_z.out) (Kd.b_q ho0) hb);replace b_y:=a_a.mk (a_l (bup_ b_y.out) hb);replace a_0:=a_a.mk (a_l (bup_ a_0.out) hb);replace b_V:=a_a.mk (a_l (bup_ b_V.out) hb);replace c_F:=a_a.mk (Kd.a_K (by repeat (first|(with_reducible exact c_F.out)|(with_reducible refine Kd.a_F ?_ _)|(with_reducible refine Kd.a_G ?_ _)|(with_reducible refine Kd.a_W ?_)|exact c_F.out)) hb);replace HB:=a_a.mk (a_i (by repeat (first|(with_reducible first|exact HB.out|apply a_d|apply a_b|apply a_e|refine a_c ?_ b_w.out|refine a_c ?_ a_2.out|refine a_c ?_ c_u.out)|exact HB.out)) hb);(try clear hb);(try clear hb2);(try clear hk);(try clear hi);(try clear ho0))|((with_reducible refine a_B (N:=11) rfl ?_);refine a_x ?hg (N:=11) ?hd (cs:=#[.slice none 0 0]) (t:=24) ?hr ?_;(case hd => rfl);(case hg => rfl);(case hr => first|(go_simp;done)|(go_simp;rfl));intro c_g hg w51 hbox hb;have e_1:=a_a.mk (hbox);have j_K:=a_a.mk ((by rw [hg];exact (a_g (by repeat (first|(with_reducible first|exact HB.out|apply a_d|apply a_b|apply a_e|refine a_c ?_ b_w.out|refine a_c ?_ a_2.out|refine a_c ?_ c_u.out)|exact HB.out))) : w.heap.size ≤ c_g));have h_W:=a_a.mk ((by rw [hg];exact (a_g (by repeat (first|(with_reducible first|exact HB.out|apply a_d|apply a_b|apply a_e|refine a_c ?_ b_w.out|refine a_c ?_ a_2.out|refine a_c ?_ c_u.out)|exact HB.out))) : w.heap.size ≤ c_g));have d_a:=a_a.mk ((by rw [hg];exact Nat.ne_of_lt (a_J (bup_ b_y.out)) : c_p ≠ c_g));have d_W:=a_a.mk ((by rw [hg];exact Nat.ne_of_gt (a_J (bup_ b_y.out)) : c_g ≠ c_p));have d_c:=a_a.mk ((by rw [hg];exact Nat.ne_of_lt (a_J (bup_ a_0.out)) : b_F ≠ c_g));have d_X:=a_a.mk ((by rw [hg];exact Nat.ne_of_gt (a_J (bup_ a_0.out)) : c_g ≠ b_F));have d_d:=a_a.mk ((by rw [hg];exact Nat.ne_of_lt (a_J (bup_ b_V.out)) : b_0 ≠ c_g));have d_Y:=a_a.mk ((by rw [hg];exact Nat.ne_of_gt (a_J (bup_ b_V.out)) : c_g ≠ b_0));replace HO_1:=a_a.mk (Kd.b_E (Kd.b_x (by (with_reducible repeat (first|apply Kd.a_L|apply Kd.a_M|apply Kd.a_6));exact HO_1.out) c_g (Nat.le_of_eq hg.symm)) hb);replace HO_6:=a_a.mk (Kd.a_A (rup_ HO_6.out) hb);replace a_z:=a_a.mk (Kd.a_A (rup_ a_z.out) hb);replace b_z:=a_a.mk (Kd.a_A (rup_ b_z.out) hb);replace f_u:=a_a.mk (Kd.a_A (rup_ f_u.out) hb);replace b_y:=a_a.mk (a_l (bup_ b_y.out) hb);replace a_0:=a_a.mk (a_l (bup_ a_0.out) hb);replace b_V:=a_a.mk (a_l (bup_ b_V.out) hb);replace c_F:=a_a.mk (Kd.a_K (by repeat (first|(with_reducible exact c_F.out)|(with_reducible refine Kd.a_F ?_ _)|(with_reducible refine Kd.a_G ?_ _)|(with_reducible refine Kd.a_W ?_)|exact c_F.out)) hb);replace HB:=a_a.mk (a_i (by repeat (first|(with_reducible first|exact HB.out|apply a_d|apply a_b|apply a_e|refine a_c ?_ b_w.out|refine a_c ?_ a_2.out|refine a_c ?_ c_u.out)|exact HB.out)) hb);clear hb hbox hg;obtain ⟨Ao52,co52,eo52⟩:=Kd.a_7 f_u.out;subst eo52;have l_T:=d_W.out;have m_j:=d_a.out;have l_U:=d_X.out;have m_k:=d_c.out;have l_V:=d_Y.out;have m_l:=d_d.out;have i_y : w51.cell? ⟨c_g,0,none⟩ = some (.slice none 0 0):=(a_n e_1.out 0).trans rfl;have i_L:=a_k e_1.out 0))
       go_ret
       exact ⟨by first|rfl|(simp [a_p,a_q] <;> rfl)|(simp [*, a_p,a_q] <;> rfl),by repeat (first|(with_reducible first|exact HB.out|apply a_d|apply a_b|apply a_e|refine a_c ?_ b_w.out|refine a_c ?_ a_2.out|refine a_c ?_ c_u.out|refine a_c ?_ h_W.out)|exact HB.out)⟩
      rw [if_pos c40] at H
      have c40b0 : (t211 == 7) = true:=beq_iff_eq.mpr c40
      have c40b1 : (t211 != 7) = false:=bne_eq_false_iff_eq.mpr c40
      clear c40
      have H':=a_a.mk H
      clear H
      have q41 : (x40_2 : Int) ≤ ((t194.length : Int) : Int):=of_decide_eq_true (by first|(with_reducible assumption)|assumption)
      obtain ⟨i041,j_i,_,hsz41,_⟩:=info_parts info5
      have hroom41 : t194.length ≤ co20:=(Kd.a_w HO_6.out).2.1
      have hC41 : Kd.C (Kd.int .u8) _ Ao20 t194.length t194:=(Kd.a_w HO_6.out).2.2
      have hcut41:=d_C (P:=Tryd.prog) 25 5 .i64 Tryd.underlying25 j_i Ao20 t194.length co20 x40_2 (of_decide_eq_true (by first|(with_reducible assumption)|assumption)) q41 hroom41
      have hr41:=Kd.f_N (m:=(x40_2 : Int).toNat) hC41 (by omega)
      have hy41 : y204.length = (x40_2 : Int).toNat:=(by rw [Ny204.out,List.length_take];omega)
      rw [← Ny204.out] at hr41
      rw [← hy41] at hcut41
      have c_F:=a_a.mk hr41
      have h_0:=a_a.mk (show y204.length ≤ co20 from by omega)
      clear hr41 hC41 hroom41 j_i hsz41
      have KY41:=a_a.mk hy41
      clear hy41
      have KL41:=a_a.mk (show (x40_2 : Int).toNat ≤ t194.length from by omega)
      replace q41:=eq_true q41
      go_wp2_with (first|((with_reducible refine a_u (f:=13) rfl ?_);refine a_U (some 47) rfl rfl Tryd.func13 (by kernel_rfl) rfl #[.slice Ao20 y204.length co20] rfl (by (try simp only [List.map_toArray,List.map_cons,List.map_nil]);first|done|rfl|(simp only [List.length_drop,List.length_take];rfl)) ?_;(with_reducible refine (a_o.calls k2 _ _ y204 t208 t211 _ ?side1 ?side2 A39.out).mono ?_);(case side1 => repeat (first|exact (by repeat (first|(with_reducible exact c_F.out)|(with_reducible refine Kd.a_F ?_ _)|(with_reducible refine Kd.a_G ?_ _)|(with_reducible refine Kd.a_W ?_)|exact c_F.out))|(with_reducible refine Kd.a_F ?_ _)|(with_reducible refine Kd.a_G ?_ _)|(with_reducible refine Kd.a_W ?_)));(case side2 => exact h_0.out);rintro e w42 ⟨v209,rfl,ho0,hb⟩;refine ⟨_,rfl,?_⟩;have f_u:=a_a.mk (Kd.a_3 (Kd.c_H (Kd.c_H (Kd.c_B (M:=fun k_ => (w.heap.size ≤ k_)) ho0 (a_g (by repeat (first|(with_reducible first|exact HB.out|apply a_d|apply a_b|apply a_e|refine a_c ?_ b_w.out|refine a_c ?_ a_2.out|refine a_c ?_ c_u.out)|exact HB.out))) (fun k_ h_ => h_)) (Kd.R_lt (rup_ a_z.out))) (Kd.R_lt (rup_ b_z.out))) (a_g (by repeat (first|(with_reducible first|exact HB.out|apply a_d|apply a_b|apply a_e|refine a_c ?_ b_w.out|refine a_c ?_ a_2.out|refine a_c ?_ c_u.out)|exact HB.out))));replace HO_1:=a_a.mk (Kd.b_n (by (with_reducible repeat (first|apply Kd.a_L|apply Kd.a_M|apply Kd.a_6));exact HO_1.out) (Kd.b_q ho0) hb);replace HO_6:=a_a.mk (Kd.a_A (rup_ HO_6.out) hb);replace a_z:=a_a.mk (Kd.b_5 (rup_ a_z.out) (Kd.b_q ho0) hb);replace b_z:=a_a.mk (Kd.b_5 (rup_ b_z.out) (Kd.b_q ho0) hb);replace b_y:=a_a.mk (a_l (bup_ b_y.out) hb);replace a_0:=a_a.mk (a_l (bup_ a_0.out) hb);replace b_V:=a_a.mk (a_l (bup_ b_V.out) hb);replace c_F:=a_a.mk (Kd.a_K (by repeat (first|(with_reducible exact c_F.out)|(with_reducible refine Kd.a_F ?_ _)|(with_reducible refine Kd.a_G ?_ _)|(with_reducible refine Kd.a_W ?_)|exact c_F.out)) hb);replace HB:=a_a.mk (a_i (by repeat (first|(with_reducible first|exact HB.out|apply a_d|apply a_b|apply a_e|refine a_c ?_ b_w.out|refine a_c ?_ a_2.out|refine a_c ?_ c_u.out)|exact HB.out)) hb);(try clear hb);(try clear hb2);(try clear hk);(try clear hi);(try clear ho0))|((with_reducible refine a_B (N:=11) rfl ?_);refine a_x ?hg (N:=11) ?hd (cs:=#[.slice none 0 0]) (t:=24) ?hr ?_;(case hd => rfl);(case hg => rfl);(case hr => first|(go_simp;done)|(go_simp;rfl));intro c_g hg w43 hbox hb;have e_1:=a_a.mk (hbox);have j_K:=a_a.mk ((by rw [hg];exact (a_g (by repeat (first|(with_reducible first|exact HB.out|apply a_d|apply a_b|apply a_e|refine a_c ?_ b_w.out|refine a_c ?_ a_2.out|refine a_c ?_ c_u.out)|exact HB.out))) : w.heap.size ≤ c_g));have h_W:=a_a.mk ((by rw [hg];exact (a_g (by repeat (first|(with_reducible first|exact HB.out|apply a_d|apply a_b|apply a_e|refine a_c ?_ b_w.out|refine a_c ?_ a_2.out|refine a_c ?_ c_u.out)|exact HB.out))) : w.heap.size ≤ c_g));have d_a:=a_a.mk ((by rw [hg];exact Nat.ne_of_lt (a_J (bup_ b_y.out)) : c_p ≠ c_g));have d_W:=a_a.mk ((by rw [hg];exact Nat.ne_of_gt (a_J (bup_ b_y.out)) : c_g ≠ c_p));have d_c:=a_a.mk ((by rw [hg];exact Nat.ne_of_lt (a_J (bup_ a_0.out)) : b_F ≠ c_g));have d_X:=a_a.mk ((by rw [hg];exact Nat.ne_of_gt (a_J (bup_ a_0.out)) : c_g ≠ b_F));have d_d:=a_a.mk ((by rw [hg];exact Nat.ne_of_lt (a_J (bup_ b_V.out)) : b_0 ≠ c_g));have d_Y:=a_a.mk ((by rw [hg];exact Nat.ne_of_gt (a_J (bup_ b_V.out)) : c_g ≠ b_0));replace HO_1:=a_a.mk (Kd.b_E (Kd.b_x (by (with_reducible repeat (first|apply Kd.a_L|apply Kd.a_M|apply Kd.a_6));exact HO_1.out) c_g (Nat.le_of_eq hg.symm)) hb);replace HO_6:=a_a.mk (Kd.a_A (rup_ HO_6.out) hb);replace a_z:=a_a.mk (Kd.a_A (rup_ a_z.out) hb);replace b_z:=a_a.mk (Kd.a_A (rup_ b_z.out) hb);replace f_u:=a_a.mk (Kd.a_A (rup_ f_u.out) hb);replace b_y:=a_a.mk (a_l (bup_ b_y.out) hb);replace a_0:=a_a.mk (a_l (bup_ a_0.out) hb);replace b_V:=a_a.mk (a_l (bup_ b_V.out) hb);replace c_F:=a_a.mk (Kd.a_K (by repeat (first|(with_reducible exact c_F.out)|(with_reducible refine Kd.a_F ?_ _)|(with_reducible refine Kd.a_G ?_ _)|(with_reducible refine Kd.a_W ?_)|exact c_F.out)) hb);replace HB:=a_a.mk (a_i (by repeat (first|(with_reducible first|exact HB.out|apply a_d|apply a_b|apply a_e|refine a_c ?_ b_w.out|refine a_c ?_ a_2.out|refine a_c ?_ c_u.out)|exact HB.out)) hb);clear hb hbox hg;obtain ⟨Ao44,co44,eo44⟩:=Kd.a_7 f_u.out;subst eo44;have k_5:=d_W.out;have l_b:=d_a.out;have l_R:=d_X.out;have m_h:=d_c.out;have l_S:=d_Y.out;have m_i:=d_d.out;have g_N : w43.cell? ⟨c_g,0,none⟩ = some (.slice none 0 0):=(a_n e_1.out 0).trans rfl;have g_R:=a_k e_1.out 0))
      go_roundg k2
      case measure => have:=HJ18.out;have:=HK2.out;omega
      case rel => exact ⟨(wrap64 (x40_2 + 1)),(by first|rfl|(simp;done)|(simp [*];done)),H',⟨by have:=HJ18.out;have:=HK2.out;omega⟩,⟨by (with_reducible repeat (first|apply Kd.a_L|apply Kd.a_M|apply Kd.a_6));exact Kd.b_X (Kd.e_7 (p:=⟨c_g,0,none⟩) (Kd.b_X HO_1.out (fun k_ hk => (⟨hk,hk.2⟩ : _ ∧ k_ ≠ c_g))) (fun _ hk => hk.2) (.slice Ao44 t208.length co44)) (fun _ hk => ⟨hk.1.1.1.1,⟨hk.1.1.1.2.1,⟨hk.1.1.1.2.2.1,⟨hk.1.1.1.2.2.2.1,⟨hk.1.1.1.2.2.2.2.1,⟨hk.1.1.1.2.2.2.2.2.1,hk.1.1.1.2.2.2.2.2.2⟩⟩⟩⟩⟩⟩)⟩,⟨by (with_reducible repeat (first|apply Kd.a_H|apply Kd.a_I|apply Kd.a_O));exact Kd.a_R (Kd.b_u (p:=⟨c_g,0,none⟩) (Kd.a_S HO_6.out e_1.out (by decide)) (fun _ hk => hk.2) (.slice Ao44 t208.length co44)) (fun _ hk => hk.1)⟩,⟨by (with_reducible repeat (first|apply Kd.a_H|apply Kd.a_I|apply Kd.a_O));exact Kd.a_R (Kd.b_u (p:=⟨c_g,0,none⟩) (Kd.a_S a_z.out e_1.out (by decide)) (fun _ hk => hk.2) (.slice Ao44 t208.length co44)) (fun _ hk => ⟨hk.1.1.1,hk.1.1.2⟩)⟩,⟨by (with_reducible repeat (first|apply Kd.a_H|apply Kd.a_I|apply Kd.a_O));exact Kd.a_R (Kd.b_u (p:=⟨c_g,0,none⟩) (Kd.a_S b_z.out e_1.out (by decide)) (fun _ hk => hk.2) (.slice Ao44 t208.length co44)) (fun _ hk => ⟨hk.1.1.1,hk.1.1.2⟩)⟩,⟨by (with_reducible repeat (first|refine a_j ?_ _|refine a_m ?_|refine a_h ?_ _));refine a_8 ?_ d_a.out _;(with_reducible repeat (first|refine a_j ?_ _|refine a_m ?_|refine a_h ?_ _));exact b_y.out⟩,⟨by (with_reducible repeat (first|refine a_j ?_ _|refine a_m ?_|refine a_h ?_ _));refine a_8 ?_ d_c.out _;(with_reducible repeat (first|refine a_j ?_ _|refine a_m ?_|refine a_h ?_ _));exact a_0.out⟩,⟨by (with_reducible repeat (first|refine a_j ?_ _|refine a_m ?_|refine a_h ?_ _));refine a_8 ?_ d_d.out _;(with_reducible repeat (first|refine a_j ?_ _|refine a_m ?_|refine a_h ?_ _));exact b_V.out⟩,⟨by repeat (first|(with_reducible first|exact HB.out|apply a_d|apply a_b|apply a_e|refine a_c ?_ b_w.out|refine a_c ?_ a_2.out|refine a_c ?_ c_u.out|refine a_c ?_ h_W.out)|exact HB.out)⟩⟩
 case rest =>
  clear HC7
  try clear c1
  try clear c2
  try clear p2
  try clear c3
  try clear c4
  try clear q4
  try clear c5
  try clear p6
  try clear c10
  try clear c11
  try clear c12
  try clear c13
  try clear c14
  try clear c17
  try clear c17b0
  try clear c17b1
  try clear c24
  try clear c25
  try clear c27
  try clear c27b0
  try clear c27b1
  try clear c29
  try clear c30
  try clear c32
  try clear c35
  try clear c36
  try clear c36b0
  try clear c37
  try clear c37b0
  try clear c37b1
  try clear c38
  try clear c38b0
  try clear c38b1
  try clear c40
  try clear c40b0
  try clear c40b1
  try clear q41
  try clear c45
  try clear c46
  try clear c47
  try clear q49
  try clear c53
  try clear c54
  try clear c55
  try clear d_q
  try clear d_r
  try clear e_N
  try clear e_O
  try clear d_s
  try clear g_N
  try clear i_y
  try clear d_t
  try clear d_u
  try clear e_P
  try clear e_Q
  try clear d_v
  try clear g_R
  try clear i_L
  try clear p2
  try clear q41
  try clear q49
  obtain ⟨kq,HA,HJ6,HO_1,a_z,a_0,HB⟩:=hcut
  cases kq with
  | zero => exact absurd HA.out (by simp [a_f.j2])
  | succ kj6 =>
   have H:=HA.out
   clear HA
   simp only [a_f.j2] at H
   obtain ⟨ji57,hji57⟩ : ∃ j_ : Int,(mn (l1.length : Int) 600) = j_:=⟨_,rfl⟩
   replace H : (if 0 ≤ (ji57) then (if (ji57) ≤ (l1.length : Int) then ((some (l1.take ((ji57) : Int).toNat : List Int)).bind fun y213 => ((a_o.f kj6 y213).bind fun bt218 => (if bt218.2 = 0 then ((a_s.f kj6 bt218.1).bind fun bt223 => (if bt223.2 = 0 then ((bytes_Equal.f bt223.1 y213).bind fun t227 => (some t227)) else (some false))) else (if (bt218.1.length : Int) = 0 then (if bt218.2 = 7 then (some true) else (some (bt218.2 == 160))) else (some false))))) else (none)) else (none)) = some r:=by first|(rw [hji57] at H;exact H)|(simp only [hji57] at H ⊢; exact H)
   have hji57_ : (if 600 < (l1.length : Int) then 600 else (l1.length : Int)) = ji57:=hji57
   by_cases c58 : 0 ≤ (ji57)
   rotate_left
   ·rw [if_neg c58] at H
    exact absurd H (by simp)
   rw [if_pos c58] at H
   have c58b0:=eq_true c58
   have c58b1 : decide (0 ≤ (ji57)) = true:=decide_eq_true c58
   clear c58
   by_cases c59 : (ji57) ≤ (l1.length : Int)
   rotate_left
   ·rw [if_neg c59] at H
    exact absurd H (by simp)
   rw [if_pos c59] at H
   have c59b0:=eq_true c59
   have c59b1 : decide ((ji57) ≤ (l1.length : Int)) = true:=decide_eq_true c59
   clear c59
   obtain ⟨y213,hy213⟩ : ∃ y_ : List Int,y_ = (l1.take ((ji57) : Int).toNat):=⟨_,rfl⟩
   replace H : ((a_o.f kj6 y213).bind fun bt218 => (if bt218.2 = 0 then ((a_s.f kj6 bt218.1).bind fun bt223 => (if bt223.2 = 0 then ((bytes_Equal.f bt223.1 y213).bind fun t227 => (some t227)) else (some false))) else (if (bt218.1.length : Int) = 0 then (if bt218.2 = 7 then (some true) else (some (bt218.2 == 160))) else (some false)))) = some r:=by first|(rw [hy213];with_reducible exact H)|(have H2_:=(Option.bind_some _ _).symm.trans H;rw [hy213];with_reducible exact H2_)|(have H2_:=(Option.bind_some _ _).symm.trans H;with_reducible exact H2_)|with_reducible exact H|(rw [hy213];exact H)|exact H
   have Ny213:=a_a.mk hy213
   clear hy213
   replace H:=Option.bind_eq_some_iff.mp H
   obtain ⟨⟨t218,t221⟩,A600,H⟩:=H
   replace H : (if t221 = 0 then ((a_s.f kj6 t218).bind fun bt223 => (if bt223.2 = 0 then ((bytes_Equal.f bt223.1 y213).bind fun t227 => (some t227)) else (some false))) else (if (t218.length : Int) = 0 then (if t221 = 7 then (some true) else (some (t221 == 160))) else (some false))) = some r:=H
   have A60:=a_a.mk A600
   clear A600
   by_cases c61 : t221 = 0
   ·rw [if_pos c61] at H
    have c61b0 : (t221 == 0) = true:=beq_iff_eq.mpr c61
    have c61b1 : (t221 != 0) = false:=bne_eq_false_iff_eq.mpr c61
    clear c61
    replace H:=Option.bind_eq_some_iff.mp H
    obtain ⟨⟨t223,t226⟩,A620,H⟩:=H
    replace H : (if t226 = 0 then ((bytes_Equal.f t223 y213).bind fun t227 => (some t227)) else (some false)) = some r:=H
    have A62:=a_a.mk A620
    clear A620
    by_cases c63 : t226 = 0
    rotate_left
    ·rw [if_neg c63] at H
     have c63b0 : (t226 == 0) = false:=beq_eq_false_iff_ne.mpr c63
     have c63b1 : (t226 != 0) = true:=bne_iff_ne.mpr c63
     obtain rfl:=Option.some.inj H
     have q73 : ((ji57) : Int) ≤ ((l1.length : Int) : Int):=of_decide_eq_true (by first|(with_reducible assumption)|assumption)
     obtain ⟨i073,j_l,_,hsz73,_⟩:=info_parts info5
     have hroom73 : l1.length ≤ c1:=(Kd.b_r HO_1.out).2.1
     have hC73 : Kd.F (Kd.int .u8) _ _ A1 l1.length l1:=(Kd.V_at (base:=w.heap.size) HO_1.out).2.2
     have hcut73:=d_C (P:=Tryd.prog) 25 5 .i64 Tryd.underlying25 j_l A1 l1.length c1 (ji57) (of_decide_eq_true (by first|(with_reducible assumption)|assumption)) q73 hroom73
     have hr73:=Kd.e_2 (m:=((ji57) : Int).toNat) hC73 (by omega)
     have hy73 : y213.length = ((ji57) : Int).toNat:=(by rw [Ny213.out,List.length_take];omega)
     rw [← Ny213.out] at hr73
     rw [← hy73] at hcut73
     have b_B:=a_a.mk (show Kd.V (Kd.int .u8) 5 _ w.heap.size _ (.slice A1 y213.length c1) y213 from Kd.V_mk (by omega) hr73)
     have h_g:=a_a.mk (show y213.length ≤ c1 from by omega)
     clear hr73 hC73 hroom73 j_l hsz73
     have KY73:=a_a.mk hy73
     clear hy73
     replace q73:=eq_true q73
     go_wp2_with (first|((with_reducible refine a_u (f:=13) rfl ?_);refine a_U (some 60) rfl rfl Tryd.func13 (by kernel_rfl) rfl #[.slice A1 y213.length c1] rfl (by (try simp only [List.map_toArray,List.map_cons,List.map_nil]);first|done|rfl|(simp only [List.length_drop,List.length_take];rfl)) ?_;(with_reducible refine (a_o.calls kj6 _ _ y213 t218 t221 _ ?side1 ?side2 A60.out).mono ?_);(case side1 => repeat (first|exact (Kd.b_r b_B.out).2.2|(with_reducible refine Kd.a_F ?_ _)|(with_reducible refine Kd.a_G ?_ _)|(with_reducible refine Kd.a_W ?_)));(case side2 => exact (Kd.b_r b_B.out).2.1);rintro e w74 ⟨v219,rfl,ho0,hb⟩;refine ⟨_,rfl,?_⟩;have c_b:=a_a.mk (Kd.a_3 (Kd.c_H (Kd.c_B (M:=fun k_ => (w.heap.size ≤ k_)) ho0 (a_g (by repeat (first|(with_reducible first|exact HB.out|apply a_d|apply a_b|apply a_e|refine a_c ?_ a_2.out)|exact HB.out))) (fun k_ h_ => h_)) (Kd.R_lt (rup_ a_z.out))) (a_g (by repeat (first|(with_reducible first|exact HB.out|apply a_d|apply a_b|apply a_e|refine a_c ?_ a_2.out)|exact HB.out))));replace HO_1:=a_a.mk (Kd.b_n (by (with_reducible repeat (first|apply Kd.a_L|apply Kd.a_M|apply Kd.a_6));exact HO_1.out) (Kd.b_q ho0) hb);replace a_z:=a_a.mk (Kd.b_5 (rup_ a_z.out) (Kd.b_q ho0) hb);replace b_B:=a_a.mk (Kd.b_n (by (with_reducible repeat (first|apply Kd.a_L|apply Kd.a_M|apply Kd.a_6));exact b_B.out) (Kd.b_q ho0) hb);replace a_0:=a_a.mk (a_l (bup_ a_0.out) hb);replace HB:=a_a.mk (a_i (by repeat (first|(with_reducible first|exact HB.out|apply a_d|apply a_b|apply a_e|refine a_c ?_ a_2.out)|exact HB.out)) hb);(try clear hb);(try clear hb2);(try clear hk);(try clear hi);(try clear ho0))|((with_reducible refine a_B (N:=13) rfl ?_);refine a_x ?hg (N:=13) ?hd (cs:=#[.slice none 0 0]) (t:=24) ?hr ?_;(case hd => rfl);(case hg => rfl);(case hr => first|(go_simp;done)|(go_simp;rfl));intro b_c hg w75 hbox hb;have c_j:=a_a.mk (hbox);have h_f:=a_a.mk ((by rw [hg];exact (a_g (by repeat (first|(with_reducible first|exact HB.out|apply a_d|apply a_b|apply a_e|refine a_c ?_ a_2.out)|exact HB.out))) : w.heap.size ≤ b_c));have c_Z:=a_a.mk ((by rw [hg];exact (a_g (by repeat (first|(with_reducible first|exact HB.out|apply a_d|apply a_b|apply a_e|refine a_c ?_ a_2.out)|exact HB.out))) : w.heap.size ≤ b_c));have b_P:=a_a.mk ((by rw [hg];exact Nat.ne_of_lt (a_J (bup_ a_0.out)) : b_F ≠ b_c));have b_3:=a_a.mk ((by rw [hg];exact Nat.ne_of_gt (a_J (bup_ a_0.out)) : b_c ≠ b_F));replace HO_1:=a_a.mk (Kd.b_E (Kd.b_x (by (with_reducible repeat (first|apply Kd.a_L|apply Kd.a_M|apply Kd.a_6));exact HO_1.out) b_c (Nat.le_of_eq hg.symm)) hb);replace a_z:=a_a.mk (Kd.a_A (rup_ a_z.out) hb);replace b_B:=a_a.mk (Kd.b_E (Kd.b_x (by (with_reducible repeat (first|apply Kd.a_L|apply Kd.a_M|apply Kd.a_6));exact b_B.out) b_c (Nat.le_of_eq hg.symm)) hb);replace c_b:=a_a.mk (Kd.a_A (rup_ c_b.out) hb);replace a_0:=a_a.mk (a_l (bup_ a_0.out) hb);replace HB:=a_a.mk (a_i (by repeat (first|(with_reducible first|exact HB.out|apply a_d|apply a_b|apply a_e|refine a_c ?_ a_2.out)|exact HB.out)) hb);clear hb hbox hg;obtain ⟨Ao76,co76,eo76⟩:=Kd.a_7 c_b.out;subst eo76;have l_X:=b_3.out;have m_n:=b_P.out;have k_p : w75.cell? ⟨b_c,0,none⟩ = some (.slice none 0 0):=(a_n c_j.out 0).trans rfl;have k_W:=a_k c_j.out 0)|((with_reducible refine a_u (f:=12) rfl ?_);refine a_U (some 79) rfl rfl Tryd.func12 (by kernel_rfl) rfl #[.agg #[.slice Ao76 t218.length co76]] rfl (by (try simp only [List.map_toArray,List.map_cons,List.map_nil]);first|done|rfl|(simp only [List.length_drop,List.length_take];rfl)) ?_;(with_reducible refine (a_s.calls kj6 _ _ t218 t223 t226 _ ?side1 ?side2 A62.out).mono ?_);(case side1 => refine (Kd.a_w (e:=56) (base:=w.heap.size) (ok:=fun k_ => (((w.heap.size ≤ k_) ∧ True) ∧ some k_ ≠ (.slice Ao13 t190.length co13 : Value).ownBlock)) (n:=t218.length) (c:=co76) ?_).2.2;exact (by (with_reducible repeat (first|apply Kd.a_H|apply Kd.a_I|apply Kd.a_O));exact (Kd.a_R (Kd.b_u (p:=⟨b_c,0,none⟩) (Kd.a_S c_b.out c_j.out (by decide)) (fun _ hk => hk.2) (.slice Ao76 t218.length co76)) (fun _ h_ => h_.1))));(case side2 => exact (Kd.a_w c_b.out).2.1);rintro e w79 ⟨v224,rfl,ho0,hb⟩;refine ⟨_,rfl,?_⟩;have h_i:=a_a.mk (Kd.a_3 (Kd.c_B (M:=fun k_ => (w.heap.size ≤ k_)) ho0 (a_g (by repeat (first|(with_reducible first|exact HB.out|apply a_d|apply a_b|apply a_e|refine a_c ?_ a_2.out|refine a_c ?_ c_Z.out)|exact HB.out))) (fun k_ h_ => h_)) (a_g (by repeat (first|(with_reducible first|exact HB.out|apply a_d|apply a_b|apply a_e|refine a_c ?_ a_2.out|refine a_c ?_ c_Z.out)|exact HB.out))));replace HO_1:=a_a.mk (Kd.b_n (by (with_reducible repeat (first|apply Kd.a_L|apply Kd.a_M|apply Kd.a_6));exact (Kd.b_X (Kd.e_7 (p:=⟨b_c,0,none⟩) (Kd.b_X HO_1.out (fun k_ hk => (⟨hk,hk.2⟩ : _ ∧ k_ ≠ b_c))) (fun _ hk => hk.2) (.slice Ao76 t218.length co76)) (fun _ h_ => h_.1))) (Kd.b_q ho0) hb);replace a_z:=a_a.mk (Kd.a_A (by (with_reducible repeat (first|apply Kd.a_H|apply Kd.a_I|apply Kd.a_O));exact (Kd.a_R (Kd.b_u (p:=⟨b_c,0,none⟩) (Kd.a_S a_z.out c_j.out (by decide)) (fun _ hk => hk.2) (.slice Ao76 t218.length co76)) (fun _ h_ => h_.1))) hb);replace b_B:=a_a.mk (Kd.b_n (by (with_reducible repeat (first|apply Kd.a_L|apply Kd.a_M|apply Kd.a_6));exact (Kd.b_X (Kd.e_7 (p:=⟨b_c,0,none⟩) (Kd.b_X b_B.out (fun k_ hk => (⟨hk,hk.2⟩ : _ ∧ k_ ≠ b_c))) (fun _ hk => hk.2) (.slice Ao76 t218.length co76)) (fun _ h_ => h_.1))) (Kd.b_q ho0) hb);replace c_b:=a_a.mk (Kd.a_A (by (with_reducible repeat (first|apply Kd.a_H|apply Kd.a_I|apply Kd.a_O));exact (Kd.a_R (Kd.b_u (p:=⟨b_c,0,none⟩) (Kd.a_S c_b.out c_j.out (by decide)) (fun _ hk => hk.2) (.slice Ao76 t218.length co76)) (fun _ h_ => h_.1))) hb);replace a_0:=a_a.mk (a_l (g:=b_F) (o:=.cells #[.slice Ao13 t190.length co13] 24 (0,0)) (by (with_reducible repeat (first|refine a_j ?_ _|refine a_m ?_|refine a_h ?_ _));refine a_8 ?_ b_P.out _;(with_reducible repeat (first|refine a_j ?_ _|refine a_m ?_|refine a_h ?_ _));exact a_0.out) hb);replace c_j:=a_a.mk (a_l (g:=b_c) (o:=.cells #[.slice Ao76 t218.length co76] 24 (0,0)) (by (with_reducible repeat (first|refine a_j ?_ _|refine a_m ?_|refine a_h ?_ _));refine a_5 (cs:=#[.slice none 0 0]) ?_ 0 _ rfl;(with_reducible repeat (first|refine a_j ?_ _|refine a_m ?_|refine a_h ?_ _));exact c_j.out) hb);replace HB:=a_a.mk (a_i (by repeat (first|(with_reducible first|exact HB.out|apply a_d|apply a_b|apply a_e|refine a_c ?_ a_2.out|refine a_c ?_ c_Z.out)|exact HB.out)) hb);(try clear hb);(try clear hb2);(try clear hk);(try clear hi);(try clear ho0)))
     go_ret
     exact ⟨by first|rfl|(simp [a_p,a_q] <;> rfl)|(simp only [← hji57];first|rfl|(simp [a_p,a_q] <;> rfl))|(simp [*, a_p,a_q] <;> rfl),by repeat (first|(with_reducible first|exact HB.out|apply a_d|apply a_b|apply a_e|refine a_c ?_ a_2.out|refine a_c ?_ c_Z.out)|exact HB.out)⟩
    rw [if_pos c63] at H
    have c63b0 : (t226 == 0) = true:=beq_iff_eq.mpr c63
    have c63b1 : (t226 != 0) = false:=bne_eq_false_iff_eq.mpr c63
    clear c63
    replace H:=Option.bind_eq_some_iff.mp H
    obtain ⟨t227,A640,H⟩:=H
    replace H : (some t227) = some r:=H
    have A64:=a_a.mk A640
    clear A640
    obtain rfl:=Option.some.inj H
    have q65 : ((ji57) : Int) ≤ ((l1.length : Int) : Int):=of_decide_eq_true (by first|(with_reducible assumption)|assumption)
    obtain ⟨i065,j_k,_,hsz65,_⟩:=info_parts info5
    have hroom65 : l1.length ≤ c1:=(Kd.b_r HO_1.out).2.1
    have hC65 : Kd.F (Kd.int .u8) _ _ A1 l1.length l1:=(Kd.V_at (base:=w.heap.size) HO_1.out).2.2
    have hcut65:=d_C (P:=Tryd.prog) 25 5 .i64 Tryd.underlying25 j_k A1 l1.length c1 (ji57) (of_decide_eq_true (by first|(with_reducible assumption)|assumption)) q65 hroom65
    have hr65:=Kd.e_2 (m:=((ji57) : Int).toNat) hC65 (by omega)
    have hy65 : y213.length = ((ji57) : Int).toNat:=(by rw [Ny213.out,List.length_take];omega)
    rw [← Ny213.out] at hr65
    rw [← hy65] at hcut65
    have b_B:=a_a.mk (show Kd.V (Kd.int .u8) 5 _ w.heap.size _ (.slice A1 y213.length c1) y213 from Kd.V_mk (by omega) hr65)
    have h_g:=a_a.mk (show y213.length ≤ c1 from by omega)
    clear hr65 hC65 hroom65 j_k hsz65
    have KY65:=a_a.mk hy65
    clear hy65
    replace q65:=eq_true q65
    go_wp2_with (first|((with_reducible refine a_u (f:=13) rfl ?_);refine a_U (some 60) rfl rfl Tryd.func13 (by kernel_rfl) rfl #[.slice A1 y213.length c1] rfl (by (try simp only [List.map_toArray,List.map_cons,List.map_nil]);first|done|rfl|(simp only [List.length_drop,List.length_take];rfl)) ?_;(with_reducible refine (a_o.calls kj6 _ _ y213 t218 t221 _ ?side1 ?side2 A60.out).mono ?_);(case side1 => repeat (first|exact (Kd.b_r b_B.out).2.2|(with_reducible refine Kd.a_F ?_ _)|(with_reducible refine Kd.a_G ?_ _)|(with_reducible refine Kd.a_W ?_)));(case side2 => exact (Kd.b_r b_B.out).2.1);rintro e w66 ⟨v219,rfl,ho0,hb⟩;refine ⟨_,rfl,?_⟩;have c_b:=a_a.mk (Kd.a_3 (Kd.c_H (Kd.c_B (M:=fun k_ => (w.heap.size ≤ k_)) ho0 (a_g (by repeat (first|(with_reducible first|exact HB.out|apply a_d|apply a_b|apply a_e|refine a_c ?_ a_2.out)|exact HB.out))) (fun k_ h_ => h_)) (Kd.R_lt (rup_ a_z.out))) (a_g (by repeat (first|(with_reducible first|exact HB.out|apply a_d|apply a_b|apply a_e|refine a_c ?_ a_2.out)|exact HB.out))));replace HO_1:=a_a.mk (Kd.b_n (by (with_reducible repeat (first|apply Kd.a_L|apply Kd.a_M|apply Kd.a_6));exact HO_1.out) (Kd.b_q ho0) hb);replace a_z:=a_a.mk (Kd.b_5 (rup_ a_z.out) (Kd.b_q ho0) hb);replace b_B:=a_a.mk (Kd.b_n (by (with_reducible repeat (first|apply Kd.a_L|apply Kd.a_M|apply Kd.a_6));exact b_B.out) (Kd.b_q ho0) hb);replace a_0:=a_a.mk (a_l (bup_ a_0.out) hb);replace HB:=a_a.mk (a_i (by repeat (first|(with_reducible first|exact HB.out|apply a_d|apply a_b|apply a_e|refine a_c ?_ a_2.out)|exact HB.out)) hb);(try clear hb);(try clear hb2);(try clear hk);(try clear hi);(try clear ho0))|((with_reducible refine a_B (N:=13) rfl ?_);refine a_x ?hg (N:=13) ?hd (cs:=#[.slice none 0 0]) (t:=24) ?hr ?_;(case hd => rfl);(case hg => rfl);(case hr => first|(go_simp;done)|(go_simp;rfl));intro b_c hg w67 hbox hb;have c_j:=a_a.mk (hbox);have h_f:=a_a.mk ((by rw [hg];exact (a_g (by repeat (first|(with_reducible first|exact HB.out|apply a_d|apply a_b|apply a_e|refine a_c ?_ a_2.out)|exact HB.out))) : w.heap.size ≤ b_c));have c_Z:=a_a.mk ((by rw [hg];exact (a_g (by repeat (first|(with_reducible first|exact HB.out|apply a_d|apply a_b|apply a_e|refine a_c ?_ a_2.out)|exact HB.out))) : w.heap.size ≤ b_c));have b_P:=a_a.mk ((by rw [hg];exact Nat.ne_of_lt (a_J (bup_ a_0.out)) : b_F ≠ b_c));have b_3:=a_a.mk ((by rw [hg];exact Nat.ne_of_gt (a_J (bup_ a_0.out)) : b_c ≠ b_F));replace HO_1:=a_a.mk (Kd.b_E (Kd.b_x (by (with_reducible repeat (first|apply Kd.a_L|apply Kd.a_M|apply Kd.a_6));exact HO_1.out) b_c (Nat.le_of_eq hg.symm)) hb);replace a_z:=a_a.mk (Kd.a_A (rup_ a_z.out) hb);replace b_B:=a_a.mk (Kd.b_E (Kd.b_x (by (with_reducible repeat (first|apply Kd.a_L|apply Kd.a_M|apply Kd.a_6));exact b_B.out) b_c (Nat.le_of_eq hg.symm)) hb);replace c_b:=a_a.mk (Kd.a_A (rup_ c_b.out) hb);replace a_0:=a_a.mk (a_l (bup_ a_0.out) hb);replace HB:=a_a.mk (a_i (by repeat (first|(with_reducible first|exact HB.out|apply a_d|apply a_b|apply a_e|refine a_c ?_ a_2.out)|exact HB.out)) hb);clear hb hbox hg;obtain ⟨Ao68,co68,eo68⟩:=Kd.a_7 c_b.out;subst eo68;have l_W:=b_3.out;have m_m:=b_P.out;have k_o : w67.cell? ⟨b_c,0,none⟩ = some (.slice none 0 0):=(a_n c_j.out 0).trans rfl;have k_V:=a_k c_j.out 0)|((with_reducible refine a_u (f:=12) rfl ?_);refine a_U (some 79) rfl rfl Tryd.func12 (by kernel_rfl) rfl #[.agg #[.slice Ao68 t218.length co68]] rfl (by (try simp only [List.map_toArray,List.map_cons,List.map_nil]);first|done|rfl|(simp only [List.length_drop,List.length_take];rfl)) ?_;(with_reducible refine (a_s.calls kj6 _ _ t218 t223 t226 _ ?side1 ?side2 A62.out).mono ?_);(case side1 => refine (Kd.a_w (e:=56) (base:=w.heap.size) (ok:=fun k_ => (((w.heap.size ≤ k_) ∧ True) ∧ some k_ ≠ (.slice Ao13 t190.length co13 : Value).ownBlock)) (n:=t218.length) (c:=co68) ?_).2.2;exact (by (with_reducible repeat (first|apply Kd.a_H|apply Kd.a_I|apply Kd.a_O));exact (Kd.a_R (Kd.b_u (p:=⟨b_c,0,none⟩) (Kd.a_S c_b.out c_j.out (by decide)) (fun _ hk => hk.2) (.slice Ao68 t218.length co68)) (fun _ h_ => h_.1))));(case side2 => exact (Kd.a_w c_b.out).2.1);rintro e w71 ⟨v224,rfl,ho0,hb⟩;refine ⟨_,rfl,?_⟩;have h_i:=a_a.mk (Kd.a_3 (Kd.c_B (M:=fun k_ => (w.heap.size ≤ k_)) ho0 (a_g (by repeat (first|(with_reducible first|exact HB.out|apply a_d|apply a_b|apply a_e|refine a_c ?_ a_2.out|refine a_c ?_ c_Z.out)|exact HB.out))) (fun k_ h_ => h_)) (a_g (by repeat (first|(with_reducible first|exact HB.out|apply a_d|apply a_b|apply a_e|refine a_c ?_ a_2.out|refine a_c ?_ c_Z.out)|exact HB.out))));replace HO_1:=a_a.mk (Kd.b_n (by (with_reducible repeat (first|apply Kd.a_L|apply Kd.a_M|apply Kd.a_6));exact (Kd.b_X (Kd.e_7 (p:=⟨b_c,0,none⟩) (Kd.b_X HO_1.out (fun k_ hk => (⟨hk,hk.2⟩ : _ ∧ k_ ≠ b_c))) (fun _ hk => hk.2) (.slice Ao68 t218.length co68)) (fun _ h_ => h_.1))) (Kd.b_q ho0) hb);replace a_z:=a_a.mk (Kd.a_A (by (with_reducible repeat (first|apply Kd.a_H|apply Kd.a_I|apply Kd.a_O));exact (Kd.a_R (Kd.b_u (p:=⟨b_c,0,none⟩) (Kd.a_S a_z.out c_j.out (by decide)) (fun _ hk => hk.2) (.slice Ao68 t218.length co68)) (fun _ h_ => h_.1))) hb);replace b_B:=a_a.mk (Kd.b_n (by (with_reducible repeat (first|apply Kd.a_L|apply Kd.a_M|apply Kd.a_6));exact (Kd.b_X (Kd.e_7 (p:=⟨b_c,0,none⟩) (Kd.b_X b_B.out (fun k_ hk => (⟨hk,hk.2⟩ : _ ∧ k_ ≠ b_c))) (fun _ hk => hk.2) (.slice Ao68 t218.length co68)) (fun _ h_ => h_.1))) (Kd.b_q ho0) hb);replace c_b:=a_a.mk (Kd.a_A (by (with_reducible repeat (first|apply Kd.a_H|apply Kd.a_I|apply Kd.a_O));exact (Kd.a_R (Kd.b_u (p:=⟨b_c,0,none⟩) (Kd.a_S c_b.out c_j.out (by decide)) (fun _ hk => hk.2) (.slice Ao68 t218.length co68)) (fun _ h_ => h_.1))) hb);replace a_0:=a_a.mk (a_l (g:=b_F) (o:=.cells #[.slice Ao13 t190.length co13] 24 (0,0)) (by (with_reducible repeat (first|refine a_j ?_ _|refine a_m ?_|refine a_h ?_ _));refine a_8 ?_ b_P.out _;(with_reducible repeat (first|refine a_j ?_ _|refine a_m ?_|refine a_h ?_ _));exact a_0.out) hb);replace c_j:=a_a.mk (a_l (g:=b_c) (o:=.cells #[.slice Ao68 t218.length co68] 24 (0,0)) (by (with_reducible repeat (first|refine a_j ?_ _|refine a_m ?_|refine a_h ?_ _));refine a_5 (cs:=#[.slice none 0 0]) ?_ 0 _ rfl;(with_reducible repeat (first|refine a_j ?_ _|refine a_m ?_|refine a_h ?_ _));exact c_j.out) hb);replace HB:=a_a.mk (a_i (by repeat (first|(with_reducible first|exact HB.out|apply a_d|apply a_b|apply a_e|refine a_c ?_ a_2.out|refine a_c ?_ c_Z.out)|exact HB.out)) hb);(try clear hb);(try clear hb2);(try clear hk);(try clear hi);(try clear ho0);obtain ⟨Ao72,co72,eo72⟩:=Kd.a_7 h_i.out;subst eo72)|(go_at_call 15;(with_reducible refine (bytes_Equal.calls _ _ t223 _ _ y213 t227 _ ?side1 ?side2 ?side3 ?side4 A64.out).mono ?_);(case side1 => repeat (first|exact (Kd.a_w h_i.out).2.2|(with_reducible refine Kd.a_F ?_ _)|(with_reducible refine Kd.a_G ?_ _)|(with_reducible refine Kd.a_W ?_)));(case side2 => exact (Kd.a_w h_i.out).2.1);(case side3 => repeat (first|exact (Kd.b_r b_B.out).2.2|(with_reducible refine Kd.a_F ?_ _)|(with_reducible refine Kd.a_G ?_ _)|(with_reducible refine Kd.a_W ?_)));(case side4 => exact (Kd.b_r b_B.out).2.1);rintro e w' ⟨rfl,⟨nd,rfl⟩⟩))
    go_ret
    exact ⟨by first|rfl|(simp [a_p,a_q] <;> rfl)|(simp only [← hji57];first|rfl|(simp [a_p,a_q] <;> rfl))|(simp [*, a_p,a_q] <;> rfl),by repeat (first|(with_reducible first|exact HB.out|apply a_d|apply a_b|apply a_e|refine a_c ?_ a_2.out|refine a_c ?_ c_Z.out)|exact HB.out)⟩
   rw [if_neg c61] at H
   have c61b0 : (t221 == 0) = false:=beq_eq_false_iff_ne.mpr c61
   have c61b1 : (t221 != 0) = true:=bne_iff_ne.mpr c61
   by_cases c80 : (t218.length : Int) = 0
   rotate_left
   ·rw [if_neg c80] at H
    have c80b0 : ((t218.length : Int) == 0) = false:=beq_eq_false_iff_ne.mpr c80
    have c80b1 : ((t218.length : Int) != 0) = true:=bne_iff_ne.mpr c80
    have c80b2 : ¬ (t218 = []):=fun h_ => c80 (by rw [h_];rfl)
    obtain rfl:=Option.some.inj H
    have q94 : ((ji57) : Int) ≤ ((l1.length : Int) : Int):=of_decide_eq_true (by first|(with_reducible assumption)|assumption)
    obtain ⟨i094,j_o,_,hsz94,_⟩:=info_parts info5
    have hroom94 : l1.length ≤ c1:=(Kd.b_r HO_1.out).2.1
    have hC94 : Kd.F (Kd.int .u8) _ _ A1 l1.length l1:=(Kd.V_at (base:=w.heap.size) HO_1.out).2.2
    have hcut94:=d_C (P:=Tryd.prog) 25 5 .i64 Tryd.underlying25 j_o A1 l1.length c1 (ji57) (of_decide_eq_true (by first|(with_reducible assumption)|assumption)) q94 hroom94
    have hr94:=Kd.e_2 (m:=((ji57) : Int).toNat) hC94 (by omega)
    have hy94 : y213.length = ((ji57) : Int).toNat:=(by rw [Ny213.out,List.length_take];omega)
    rw [← Ny213.out] at hr94
    rw [← hy94] at hcut94
    have b_B:=a_a.mk (show Kd.V (Kd.int .u8) 5 _ w.heap.size _ (.slice A1 y213.length c1) y213 from Kd.V_mk (by omega) hr94)
    have h_g:=a_a.mk (show y213.length ≤ c1 from by omega)
    clear hr94 hC94 hroom94 j_o hsz94
    have KY94:=a_a.mk hy94
    clear hy94
    replace q94:=eq_true q94
    go_wp2_with (first|((with_reducible refine a_u (f:=13) rfl ?_);refine a_U (some 60) rfl rfl Tryd.func13 (by kernel_rfl) rfl #[.slice A1 y213.length c1] rfl (by (try simp only [List.map_toArray,List.map_cons,List.map_nil]);first|done|rfl|(simp only [List.length_drop,List.length_take];rfl)) ?_;(with_reducible refine (a_o.calls kj6 _ _ y213 t218 t221 _ ?side1 ?side2 A60.out).mono ?_);(case side1 => repeat (first|exact (Kd.b_r b_B.out).2.2|(with_reducible refine Kd.a_F ?_ _)|(with_reducible refine Kd.a_G ?_ _)|(with_reducible refine Kd.a_W ?_)));(case side2 => exact (Kd.b_r b_B.out).2.1);rintro e w95 ⟨v219,rfl,ho0,hb⟩;refine ⟨_,rfl,?_⟩;have c_b:=a_a.mk (Kd.a_3 (Kd.c_H (Kd.c_B (M:=fun k_ => (w.heap.size ≤ k_)) ho0 (a_g (by repeat (first|(with_reducible first|exact HB.out|apply a_d|apply a_b|apply a_e|refine a_c ?_ a_2.out)|exact HB.out))) (fun k_ h_ => h_)) (Kd.R_lt (rup_ a_z.out))) (a_g (by repeat (first|(with_reducible first|exact HB.out|apply a_d|apply a_b|apply a_e|refine a_c ?_ a_2.out)|exact HB.out))));replace HO_1:=a_a.mk (Kd.b_n (by (with_reducible repeat (first|apply Kd.a_L|apply Kd.a_M|apply Kd.a_6));exact HO_1.out) (Kd.b_q ho0) hb);replace a_z:=a_a.mk (Kd.b_5 (rup_ a_z.out) (Kd.b_q ho0) hb);replace b_B:=a_a.mk (Kd.b_n (by (with_reducible repeat (first|apply Kd.a_L|apply Kd.a_M|apply Kd.a_6));exact b_B.out) (Kd.b_q ho0) hb);replace a_0:=a_a.mk (a_l (bup_ a_0.out) hb);replace HB:=a_a.mk (a_i (by repeat (first|(with_reducible first|exact HB.out|apply a_d|apply a_b|apply a_e|refine a_c ?_ a_2.out)|exact HB.out)) hb);(try clear hb);(try clear hb2);(try clear hk);(try clear hi);(try clear ho0))|((with_reducible refine a_B (N:=13) rfl ?_);refine a_x ?hg (N:=13) ?hd (cs:=#[.slice none 0 0]) (t:=24) ?hr ?_;(case hd => rfl);(case hg => rfl);(case hr => first|(go_simp;done)|(go_simp;rfl));intro b_c hg w96 hbox hb;have c_j:=a_a.mk (hbox);have h_f:=a_a.mk ((by rw [hg];exact (a_g (by repeat (first|(with_reducible first|exact HB.out|apply a_d|apply a_b|apply a_e|refine a_c ?_ a_2.out)|exact HB.out))) : w.heap.size ≤ b_c));have c_Z:=a_a.mk ((by rw [hg];exact (a_g (by repeat (first|(with_reducible first|exact HB.out|apply a_d|apply a_b|apply a_e|refine a_c ?_ a_2.out)|exact HB.out))) : w.heap.size ≤ b_c));have b_P:=a_a.mk ((by rw [hg];exact Nat.ne_of_lt (a_J (bup_ a_0.out)) : b_F ≠ b_c));have b_3:=a_a.mk ((by rw [hg];exact Nat.ne_of_gt (a_J (bup_ a_0.out)) : b_c ≠ b_F));replace HO_1:=a_a.mk (Kd.b_E (Kd.b_x (by (with_reducible repeat (first|apply Kd.a_L|apply Kd.a_M|apply Kd.a_6));exact HO_1.out) b_c (Nat.le_of_eq hg.symm)) hb);replace a_z:=a_a.mk (Kd.a_A (rup_ a_z.out) hb);replace b_B:=a_a.mk (Kd.b_E (Kd.b_x (by (with_reducible repeat (first|apply Kd.a_L|apply Kd.a_M|apply Kd.a_6));exact b_B.out) b_c (Nat.le_of_eq hg.symm)) hb);replace c_b:=a_a.mk (Kd.a_A (rup_ c_b.out) hb);replace a_0:=a_a.mk (a_l (bup_ a_0.out) hb);replace HB:=a_a.mk (a_i (by repeat (first|(with_reducible first|exact HB.out|apply a_d|apply a_b|apply a_e|refine a_c ?_ a_2.out)|exact HB.out)) hb);clear hb hbox hg;obtain ⟨Ao97,co97,eo97⟩:=Kd.a_7 c_b.out;subst eo97;have l_0:=b_3.out;have m_q:=b_P.out;have k_s : w96.cell? ⟨b_c,0,none⟩ = some (.slice none 0 0):=(a_n c_j.out 0).trans rfl;have k_Z:=a_k c_j.out 0))
    go_ret
    exact ⟨by first|rfl|(simp [a_p,a_q] <;> rfl)|(simp only [← hji57];first|rfl|(simp [a_p,a_q] <;> rfl))|(simp [*, a_p,a_q] <;> rfl),by repeat (first|(with_reducible first|exact HB.out|apply a_d|apply a_b|apply a_e|refine a_c ?_ a_2.out|refine a_c ?_ c_Z.out)|exact HB.out)⟩
   rw [if_pos c80] at H
   have c80b0 : ((t218.length : Int) == 0) = true:=beq_iff_eq.mpr c80
   have c80b1 : ((t218.length : Int) != 0) = false:=bne_eq_false_iff_eq.mpr c80
   clear c80
   by_cases c81 : t221 = 7
   ·rw [if_pos c81] at H
    have c81b0 : (t221 == 7) = true:=beq_iff_eq.mpr c81
    have c81b1 : (t221 != 7) = false:=bne_eq_false_iff_eq.mpr c81
    clear c81
    obtain rfl:=Option.some.inj H
    have q82 : ((ji57) : Int) ≤ ((l1.length : Int) : Int):=of_decide_eq_true (by first|(with_reducible assumption)|assumption)
    obtain ⟨i082,j_m,_,hsz82,_⟩:=info_parts info5
    have hroom82 : l1.length ≤ c1:=(Kd.b_r HO_1.out).2.1
    have hC82 : Kd.F (Kd.int .u8) _ _ A1 l1.length l1:=(Kd.V_at (base:=w.heap.size) HO_1.out).2.2
    have hcut82:=d_C (P:=Tryd.prog) 25 5 .i64 Tryd.underlying25 j_m A1 l1.length c1 (ji57) (of_decide_eq_true (by first|(with_reducible assumption)|assumption)) q82 hroom82
    have hr82:=Kd.e_2 (m:=((ji57) : Int).toNat) hC82 (by omega)
    have hy82 : y213.length = ((ji57) : Int).toNat:=(by rw [Ny213.out,List.length_take];omega)
    rw [← Ny213.out] at hr82
    rw [← hy82] at hcut82
    have b_B:=a_a.mk (show Kd.V (Kd.int .u8) 5 _ w.heap.size _ (.slice A1 y213.length c1) y213 from Kd.V_mk (by omega) hr82)
    have h_g:=a_a.mk (show y213.length ≤ c1 from by omega)
    clear hr82 hC82 hroom82 j_m hsz82
    have KY82:=a_a.mk hy82
    clear hy82
    replace q82:=eq_true q82
    go_wp2_with (first|((with_reducible refine a_u (f:=13) rfl ?_);refine a_U (some 60) rfl rfl Tryd.func13 (by kernel_rfl) rfl #[.slice A1 y213.length c1] rfl (by (try simp only [List.map_toArray,List.map_cons,List.map_nil]);first|done|rfl|(simp only [List.length_drop,List.length_take];rfl)) ?_;(with_reducible refine (a_o.calls kj6 _ _ y213 t218 t221 _ ?side1 ?side2 A60.out).mono ?_);(case side1 => repeat (first|exact (Kd.b_r b_B.out).2.2|(with_reducible refine Kd.a_F ?_ _)|(with_reducible refine Kd.a_G ?_ _)|(with_reducible refine Kd.a_W ?_)));(case side2 => exact (Kd.b_r b_B.out).2.1);rintro e w83 ⟨v219,rfl,ho0,hb⟩;refine ⟨_,rfl,?_⟩;have c_b:=a_a.mk (Kd.a_3 (Kd.c_H (Kd.c_B (M:=fun k_ => (w.heap.size ≤ k_)) ho0 (a_g (by repeat (first|(with_reducible first|exact HB.out|apply a_d|apply a_b|apply a_e|refine a_c ?_ a_2.out)|exact HB.out))) (fun k_ h_ => h_)) (Kd.R_lt (rup_ a_z.out))) (a_g (by repeat (first|(with_reducible first|exact HB.out|apply a_d|apply a_b|apply a_e|refine a_c ?_ a_2.out)|exact HB.out))));replace HO_1:=a_a.mk (Kd.b_n (by (with_reducible repeat (first|apply Kd.a_L|apply Kd.a_M|apply Kd.a_6));exact HO_1.out) (Kd.b_q ho0) hb);replace a_z:=a_a.mk (Kd.b_5 (rup_ a_z.out) (Kd.b_q ho0) hb);replace b_B:=a_a.mk (Kd.b_n (by (with_reducible repeat (first|apply Kd.a_L|apply Kd.a_M|apply Kd.a_6));exact b_B.out) (Kd.b_q ho0) hb);replace a_0:=a_a.mk (a_l (bup_ a_0.out) hb);replace HB:=a_a.mk (a_i (by repeat (first|(with_reducible first|exact HB.out|apply a_d|apply a_b|apply a_e|refine a_c ?_ a_2.out)|exact HB.out)) hb);(try clear hb);(try clear hb2);(try clear hk);(try clear hi);(try clear ho0))|((with_reducible refine a_B (N:=13) rfl ?_);refine a_x ?hg (N:=13) ?hd (cs:=#[.slice none 0 0]) (t:=24) ?hr ?_;(case hd => rfl);(case hg => rfl);(case hr => first|(go_simp;done)|(go_simp;rfl));intro b_c hg w84 hbox hb;have c_j:=a_a.mk (hbox);have h_f:=a_a.mk ((by rw [hg];exact (a_g (by repeat (first|(with_reducible first|exact HB.out|apply a_d|apply a_b|apply a_e|refine a_c ?_ a_2.out)|exact HB.out))) : w.heap.size ≤ b_c));have c_Z:=a_a.mk ((by rw [hg];exact (a_g (by repeat (first|(with_reducible first|exact HB.out|apply a_d|apply a_b|apply a_e|refine a_c ?_ a_2.out)|exact HB.out))) : w.heap.size ≤ b_c));have b_P:=a_a.mk ((by rw [hg];exact Nat.ne_of_lt (a_J (bup_ a_0.out)) : b_F ≠ b_c));have b_3:=a_a.mk ((by rw [hg];exact Nat.ne_of_gt (a_J (bup_ a_0.out)) : b_c ≠ b_F));replace HO_1:=a_a.mk (Kd.b_E (Kd.b_x (by (with_reducible repeat (first|apply Kd.a_L|apply Kd.a_M|apply Kd.a_6));exact HO_1.out) b_c (Nat.le_of_eq hg.symm)) hb);replace a_z:=a_a.mk (Kd.a_A (rup_ a_z.out) hb);replace b_B:=a_a.mk (Kd.b_E (Kd.b_x (by (with_reducible repeat (first|apply Kd.a_L|apply Kd.a_M|apply Kd.a_6));exact b_B.out) b_c (Nat.le_of_eq hg.symm)) hb);replace c_b:=a_a.mk (Kd.a_A (rup_ c_b.out) hb);replace a_0:=a_a.mk (a_l (bup_ a_0.out) hb);replace HB:=a_a.mk (a_i (by repeat (first|(with_reducible first|exact HB.out|apply a_d|apply a_b|apply a_e|refine a_c ?_ a_2.out)|exact HB.out)) hb);clear hb hbox hg;obtain ⟨Ao85,co85,eo85⟩:=Kd.a_7 c_b.out;subst eo85;have l_Y:=b_3.out;have m_o:=b_P.out;have k_q : w84.cell? ⟨b_c,0,none⟩ = some (.slice none 0 0):=(a_n c_j.out 0).trans rfl;have k_X:=a_k c_j.out 0))
    go_ret
    exact ⟨by first|rfl|(simp [a_p,a_q] <;> rfl)|(simp only [← hji57];first|rfl|(simp [a_p,a_q] <;> rfl))|(simp [*, a_p,a_q] <;> rfl),by repeat (first|(with_reducible first|exact HB.out|apply a_d|apply a_b|apply a_e|refine a_c ?_ a_2.out|refine a_c ?_ c_Z.out)|exact HB.out)⟩
   rw [if_neg c81] at H
   have c81b0 : (t221 == 7) = false:=beq_eq_false_iff_ne.mpr c81
   have c81b1 : (t221 != 7) = true:=bne_iff_ne.mpr c81
   obtain rfl:=Option.some.inj H
   have q88 : ((ji57) : Int) ≤ ((l1.length : Int) : Int):=of_decide_eq_true (by first|(with_reducible assumption)|assumption)
   obtain ⟨i088,j_n,_,hsz88,_⟩:=info_parts info5
   have hroom88 : l1.length ≤ c1:=(Kd.b_r HO_1.out).2.1
   have hC88 : Kd.F (Kd.int .u8) _ _ A1 l1.length l1:=(Kd.V_at (base:=w.heap.size) HO_1.out).2.2
   have hcut88:=d_C (P:=Tryd.prog) 25 5 .i64 Tryd.underlying25 j_n A1 l1.length c1 (ji57) (of_decide_eq_true (by first|(with_reducible assumption)|assumption)) q88 hroom88
   have hr88:=Kd.e_2 (m:=((ji57) : Int).toNat) hC88 (by omega)
   have hy88 : y213.length = ((ji57) : Int).toNat:=(by rw [Ny213.out,List.length_take];omega)
   rw [← Ny213.out] at hr88
   rw [← hy88] at hcut88
   have b_B:=a_a.mk (show Kd.V (Kd.int .u8) 5 _ w.heap.size _ (.slice A1 y213.length c1) y213 from Kd.V_mk (by omega) hr88)
   have h_g:=a_a.mk (show y213.length ≤ c1 from by omega)
   clear hr88 hC88 hroom88 j_n hsz88
   have KY88:=a_a.mk hy88
   clear hy88
   replace q88:=eq_true q88
   go_wp2_with (first|((with_reducible refine a_u (f:=13) rfl ?_);refine a_U (some 60) rfl rfl Tryd.func13 (by kernel_rfl) rfl #[.slice A1 y213.length c1] rfl (by (try simp only [List.map_toArray,List.map_cons,List.map_nil]);first|done|rfl|(simp only [List.length_drop,List.length_take];rfl)) ?_;(with_reducible refine (a_o.calls kj6 _ _ y213 t218 t221 _ ?side1 ?side2 A60.out).mono ?_);(case side1 => repeat (first|exact (Kd.b_r b_B.out).2.2|(with_reducible refine Kd.a_F ?_ _)|(with_reducible refine Kd.a_G ?_ _)|(with_reducible refine Kd.a_W ?_)));(case side2 => exact (Kd.b_r b_B.out).2.1);rintro e w89 ⟨v219,rfl,ho0,hb⟩;refine ⟨_,rfl,?_⟩;have c_b:=a_a.mk (Kd.a_3 (Kd.c_H (Kd.c_B (M:=fun k_ => (w.heap.size ≤ k_)) ho0 (a_g (by repeat (first|(with_reducible first|exact HB.out|apply a_d|apply a_b|apply a_e|refine a_c ?_ a_2.out)|exact HB.out))) (fun k_ h_ => h_)) (Kd.R_lt (rup_ a_z.out))) (a_g (by repeat (first|(with_reducible first|exact HB.out|apply a_d|apply a_b|apply a_e|refine a_c ?_ a_2.out)|exact HB.out))));replace HO_1:=a_a.mk (Kd.b_n (by (with_reducible repeat (first|apply Kd.a_L|apply Kd.a_M|apply Kd.a_6));exact HO_1.out) (Kd.b_q ho0) hb);replace a_z:=a_a.mk (Kd.b_5 (rup_ a_z.out) (Kd.b_q ho0) hb);replace b_B:=a_a.mk (Kd.b_n (by (with_reducible repeat (first|apply Kd.a_L|apply Kd.a_M|apply Kd.a_6));exact b_B.out) (Kd.b_q ho0) hb);replace a_0:=a_a.mk (a_l (bup_ a_0.out) hb);replace HB:=a_a.mk (a_i (by repeat (first|(with_reducible first|exact HB.out|apply a_d|apply a_b|apply a_e|refine a_c ?_ a_2.out)|exact HB.out)) hb);(try clear hb);(try clear hb2);(try clear hk);(try clear hi);(try clear ho0))|((with_reducible refine a_B (N:=13) rfl ?_);refine a_x ?hg (N:=13) ?hd (cs:=#[.slice none 0 0]) (t:=24) ?hr ?_;(case hd => rfl);(case hg => rfl);(case hr => first|(go_simp;done)|(go_simp;rfl));intro b_c hg w90 hbox hb;have c_j:=a_a.mk (hbox);have h_f:=a_a.mk ((by rw [hg];exact (a_g (by repeat (first|(with_reducible first|exact HB.out|apply a_d|apply a_b|apply a_e|refine a_c ?_ a_2.out)|exact HB.out))) : w.heap.size ≤ b_c));have c_Z:=a_a.mk ((by rw [hg];exact (a_g (by repeat (first|(with_reducible first|exact HB.out|apply a_d|apply a_b|apply a_e|refine a_c ?_ a_2.out)|exact HB.out))) : w.heap.size ≤ b_c));have b_P:=a_a.mk ((by rw [hg];exact Nat.ne_of_lt (a_J (bup_ a_0.out)) : b_F ≠ b_c));have b_3:=a_a.mk ((by rw [hg];exact Nat.ne_of_gt (a_J (bup_ a_0.out)) : b_c ≠ b_F));replace HO_1:=a_a.mk (Kd.b_E (Kd.b_x (by (with_reducible repeat (first|apply Kd.a_L|apply Kd.a_M|apply Kd.a_6));exact HO_1.out) b_c (Nat.le_of_eq hg.symm)) hb);replace a_z:=a_a.mk (Kd.a_A (rup_ a_z.out) hb);replace b_B:=a_a.mk (Kd.b_E (Kd.b_x (by (with_reducible repeat (first|apply Kd.a_L|apply Kd.a_M|apply Kd.a_6));exact b_B.out) b_c (Nat.le_of_eq hg.symm)) hb);replace c_b:=a_a.mk (Kd.a_A (rup_ c_b.out) hb);replace a_0:=a_a.mk (a_l (bup_ a_0.out) hb);replace HB:=a_a.mk (a_i (by repeat (first|(with_reducible first|exact HB.out|apply a_d|apply a_b|apply a_e|refine a_c ?_ a_2.out)|exact HB.out)) hb);clear hb hbox hg;obtain ⟨Ao91,co91,eo91⟩:=Kd.a_7 c_b.out;subst eo91;have l_Z:=b_3.out;have m_p:=b_P.out;have k_r : w90.cell? ⟨b_c,0,none⟩ = some (.slice none 0 0):=(a_n c_j.out 0).trans rfl;have k_Y:=a_k c_j.out 0))
   go_ret
   exact ⟨by first|rfl|(simp [a_p,a_q] <;> rfl)|(simp only [← hji57];first|rfl|(simp [a_p,a_q] <;> rfl))|(simp [*, a_p,a_q] <;> rfl),by repeat (first|(with_reducible first|exact HB.out|apply a_d|apply a_b|apply a_e|refine a_c ?_ a_2.out|refine a_c ?_ c_Z.out)|exact HB.out)⟩
end Go.Proofs.YtcpfcehfgenljaaDoor.Q
end
section
namespace Go.Proofs.YtcpfcehfgenljaaDoor.Pure
open Go.RowKit Go.Proofs.YtcpfcehfgenljaaDoor.Q Go.Proofs.YtcpfcehfgenljaaDoorW.PrintWords Go.Proofs.YtcpfcehfgenljaaDoorW.PrintLast Go.Proofs.YtcpfcehfgenljaaDoorW.PrintMore
set_option linter.unusedVariables false
set_option linter.unusedSimpArgs false
theorem d_m (n : Nat) (h : n < 9223372036854775807) : wrap64 ((n : Int) + 1) = ((n + 1 : Nat) : Int):=by unfold wrap64;omega
theorem f_s (n : Int) (h0 : -9223372036854775808 ≤ n) (h1 : n ≤ 9223372036854775807) : wrap64 n = n:=by unfold wrap64;omega
theorem rdm {l pre suf : List S56} {x : S56} (h : l = pre ++ x :: suf) : a_t l (pre.length : Int) = x:=by subst h;simp [a_t]
theorem i_V {α : Type} {l pre suf : List α} {x : α} (h : l = pre ++ x :: suf) : pre.length < l.length:=by subst h;simp
theorem f_J {α : Type} {l pre suf : List α} {x : α} (h : l = pre ++ x :: suf) : l = (pre ++ [x]) ++ suf:=by simp [h]
theorem g_0 {α : Type} {pre : List α} {x : α} (h : pre.length < 1000000000) : wrap64 ((pre.length : Int) + 1) = ((pre ++ [x]).length : Int):=by rw [d_m pre.length (by omega)];simp
theorem g_Z {α : Type} {l pre : List α} (h : l = pre ++ []) : pre.length = l.length:=by subst h;simp
theorem h_z : Ev (fun k => a_v.f k) true:=Ev.of a_v.mono (k:=100) (by kernel_rfl)
theorem i_X (l : List S56) : a_P.f l = some (l.take 9):=by
 have h : mn (l.length : Int) 9 = ((min l.length 9 : Nat) : Int):=by unfold mn;split <;> omega
 unfold a_P.f
 rw [h,if_pos (by omega),if_pos (by omega),Int.toNat_natCast]
 unfold a_4.f
 have e : l.take (min l.length 9) = l.take 9:=by rw [List.take_eq_take_iff];omega
 have hl : (l.take 9).length ≤ 9:=by rw [List.length_take];omega
 rw [e]
 simp only [Option.bind_some,List.nil_append,List.length_nil]
 rw [if_pos (by omega)]
 rfl
def eqv (x y : S56) : Bool:=x.f0 == y.f0 && (x.f1 == y.f1)
theorem i_l {x y : S56} : eqv x y = true ↔ x = y:=by
 unfold eqv
 simp only [Bool.and_eq_true,beq_iff_eq]
 constructor
 ·rintro ⟨h0,h1⟩;cases x;cases y;simp_all
 rintro rfl;exact ⟨rfl,rfl⟩
def eqL : List S56 → List S56 → Bool
 | [],[] => true
 | x :: a,y :: b => eqv x y && eqL a b
 | _,_ => false
theorem f_C : ∀ {a b : List S56}, eqL a b = true ↔ a = b
 | [],[] => by simp [eqL]
 | x :: a,y :: b => by rw [eqL,Bool.and_eq_true,i_l,f_C,List.cons_eq_cons]
 | [],y :: b => by simp [eqL]
 | x :: a,[] => by simp [eqL]
theorem h_l (a : List S56) : eqL a a = true:=f_C.2 rfl
theorem i_k : ∀ {a b : List S56}, a.length ≠ b.length → eqL a b = false:=fun {a b} h => by
 cases e : eqL a b
 ·rfl
 ·exact absurd (congrArg List.length (f_C.1 e)) h
theorem g_1 (A B : List S56) (hA : A.length ≤ 100000) : ∀ (a b p q : List S56),A = p ++ a → B = q ++ b → p.length = q.length → a.length = b.length → Ev (fun k => a_E.l0 k A B (A.length : Int) (p.length : Int)) (eqL a b)
 | [],[],p,q,h1,h2,h3,h4 => by
  have:=g_Z h1
  refine Ev.step (f:=fun _ => some true) (fun k => ?_) (Ev.now _)
  rw [a_E.l0,if_neg (by omega)]
 | x :: a,y :: b,p,q,h1,h2,h3,h4 => by
  have i1:=i_V h1
  have i2:=i_V h2
  have ih:=g_1 A B hA a b (p ++ [x]) (q ++ [y]) (f_J h1) (f_J h2) (by simp [h3]) (by simpa using h4)
  have r2 : a_t B (p.length : Int) = y:=by rw [h3];exact rdm h2
  refine Ev.step (f:=fun k => if eqv x y = true then a_E.l0 k A B (A.length : Int) ((p ++ [x]).length : Int) else some false) (fun k => ?_) ?_
  ·rw [a_E.l0,if_pos (by omega),if_pos (by omega),if_pos (by omega),if_pos (by omega),rdm h1,r2,g_0 (x:=x) (by omega)]
   unfold eqv
   cases (x.f0 == y.f0) <;> cases (x.f1 == y.f1) <;> rfl
  ·rw [eqL]
   cases eqv x y
   ·exact Ev.now _
   ·simpa using ih
 | [],y :: b,p,q,h1,h2,h3,h4 => by simp at h4
 | x :: a,[],p,q,h1,h2,h3,h4 => by simp at h4
theorem j_c (A B : List S56) (hA : A.length ≤ 100000) : Ev (fun k => a_X.f k A B) (eqL A B):=by
 unfold a_X.f
 refine Ev.bind ?_ (Ev.now _)
 unfold a_E.f
 by_cases h : A.length = B.length
 ·simp only [if_pos (show (A.length : Int) = (B.length : Int) by omega)]
  exact g_1 A B hA A B [] [] rfl rfl rfl h
 simp only [if_neg (show ¬ (A.length : Int) = (B.length : Int) by omega),i_k h]
 exact Ev.now _
theorem g_W (l : List S56) : okT l = (decide (1 ≤ l.length) && decide (l.length ≤ 8) && !l.any f_n):=rfl
theorem h_v {l : List S56} (h : okT l = true) : ∀ x ∈ l,0 ≤ x.f0 ∧ x.f0 < 4 ∧ 0 ≤ x.f1 ∧ x.f1 < 8:=by
 intro x hx
 rw [g_W] at h
 simp only [Bool.and_eq_true,Bool.not_eq_true',decide_eq_true_eq,List.any_eq_false] at h
 have:=h.2 x hx
 unfold f_n at this
 simp at this
 omega
theorem e_S {l : List S56} (h : okT l = true) : 1 ≤ l.length ∧ l.length ≤ 8:=by
 rw [g_W] at h
 simp only [Bool.and_eq_true,decide_eq_true_eq] at h
 exact h.1
def encS (x : S56) : List Int:=[x.f0 % 256,x.f1 % 256]
def encB (l : List S56) : List Int:=((l.length : Int) % 256) :: l.flatMap encS
theorem e_M (l : List S56) : (l.flatMap encS).length = 2 * l.length:=by
 induction l with
 | nil => rfl
 | cons x l ih => rw [List.flatMap_cons,List.length_append,ih];simp [encS];omega
theorem e_L (l : List S56) : (encB l).length = 1 + 2 * l.length:=by unfold encB;rw [List.length_cons,e_M];omega
theorem h_H (l : List S56) (hl : l.length ≤ 100000) : ∀ (suf pre : List S56) (out : List Int),l = pre ++ suf → out.length ≤ 1 + 2 * pre.length → Ev (fun k => a_s.l0 k out l (l.length : Int) (pre.length : Int)) (out ++ suf.flatMap encS,0)
 | [],pre,out,h,ho => by
  have:=g_Z h
  refine Ev.step (f:=fun _ => some (out ++ [],0)) (fun k => ?_) (by simpa using Ev.now _)
  rw [a_s.l0,if_neg (by omega),List.append_nil]
 | x :: suf,pre,out,h,ho => by
  have hlt:=i_V h
  have ih:=h_H l hl suf (pre ++ [x]) (out ++ encS x) (f_J h) (by simp [encS];omega)
  refine Ev.step (f:=fun k => a_s.l0 k (out ++ encS x) l (l.length : Int) ((pre ++ [x]).length : Int)) (fun k => ?_) (by simpa using ih)
  rw [a_s.l0,if_pos (by omega),if_pos (by omega),if_pos (by omega),rdm h,Option.bind_some,if_pos (by simp;omega),g_0 (x:=x) (by omega)]
  rfl
theorem e_C (l : List S56) (hl : l.length ≤ 100000) : Ev (fun k => a_s.f k l) (if okT l = true then (encB l,0) else ([],160)):=by
 unfold a_s.f
 simp only [c_A,Option.bind_some]
 cases h : okT l
 ·exact Ev.now _
 simpa [encB] using h_H l hl l [] [(l.length : Int) % 256] rfl (by simp)
def Byt (B : List Int) : Prop := ∀ x ∈ B,0 ≤ x ∧ x < 256
theorem d_G (l : List Int) : (strOfNums l).toList = l.map fun n => UInt8.ofNat n.toNat:=by
 unfold strOfNums
 simp
theorem g_y {A B : List Int} (hA : Byt A) (hB : Byt B) : bytes_Equal.f A B = some (decide (A = B)):=by
 unfold bytes_Equal.f
 rw [d_G,d_G]
 congr 1
 rw [Bool.eq_iff_iff,beq_iff_eq,decide_eq_true_eq]
 constructor
 ·intro h
  induction A generalizing B with
  | nil => cases B with|nil => rfl|cons b B => simp at h
  | cons a A ih =>
   cases B with
   | nil => simp at h
   | cons b B =>
    simp only [List.map_cons,List.cons.injEq] at h
    have h1:=hA a (by simp)
    have h2:=hB b (by simp)
    have e : a.toNat = b.toNat:=by
     have:=congrArg UInt8.toNat h.1
     rw [UInt8.toNat_ofNat_of_lt' (by show a.toNat < 256;omega),UInt8.toNat_ofNat_of_lt' (by show b.toNat < 256;omega)] at this
     exact this
    rw [ih (fun x hx => hA x (by simp [hx])) (fun x hx => hB x (by simp [hx])) h.2,show a = b by omega]
 rintro rfl;rfl
theorem e_K (l : List S56) : Byt (encB l):=by
 intro x hx
 unfold encB at hx
 rcases List.mem_cons.mp hx with rfl|hx
 ·omega
 obtain ⟨y,hy,hx⟩:=List.mem_flatMap.mp hx
 unfold encS at hx
 simp at hx
 rcases hx with rfl|rfl <;> omega
end Go.Proofs.YtcpfcehfgenljaaDoor.Pure
end
section
namespace Go.Proofs.YtcpfcehfgenljaaDoor.Pure
open Go.RowKit Go.Proofs.YtcpfcehfgenljaaDoor.Q Go.Proofs.YtcpfcehfgenljaaDoorW.PrintWords Go.Proofs.YtcpfcehfgenljaaDoorW.PrintLast Go.Proofs.YtcpfcehfgenljaaDoorW.PrintMore
set_option linter.unusedVariables false
set_option linter.unusedSimpArgs false
def pairs : List Int → List S56
 | a :: b :: r => ⟨a,b⟩ :: pairs r
 | _ => []
def decB : List Int → List S56 × Int
 | [] => ([],7)
 | h :: t => if ((t.length : Int) + 1) ≤ 2 * h then ([],7) else if okT (pairs t) = true ∧ encB (pairs t) = h :: t then (pairs t,0) else ([],160)
theorem rdi {B pre suf : List Int} {x : Int} (h : B = pre ++ x :: suf) : rd B (pre.length : Int) = x:=by subst h;simp [rd]
theorem e_r (L : List S56) (B : List Int) (hL : L.length ≤ 100000) (hB : Byt B) : Ev (fun k => (a_s.f k L).bind fun bt178 => (if bt178.2 = 0 then ((bytes_Equal.f bt178.1 B).bind fun t182 => (if t182 = true then (some (L,(0 : Int))) else (some (([] : List S56),160)))) else (some (([] : List S56),160)))) (if okT L = true ∧ encB L = B then (L,0) else ([],160)):=by
 refine Ev.bind (e_C L hL) ?_
 cases h : okT L
 ·simp only [Bool.false_eq_true,if_false,false_and]
  exact Ev.now _
 simp only [if_true,g_y (e_K L) hB,Option.bind_some,true_and]
 by_cases e : encB L = B
 ·simp only [decide_eq_true e,if_pos e,if_true];exact Ev.now _
 simp only [decide_eq_false e,if_neg e];exact Ev.now _
theorem h_F (B : List Int) (hB : Byt B) (hl : B.length ≤ 100000) : ∀ (n : Nat) (suf pre : List Int) (out : List S56),suf.length ≤ n → B = pre ++ suf → 1 ≤ pre.length → out.length ≤ pre.length →
 Ev (fun k => a_o.l0 k B (pre.length : Int) out) (if okT (out ++ pairs suf) = true ∧ encB (out ++ pairs suf) = B then (out ++ pairs suf,0) else ([],160))
 | n,[],pre,out,hn,h,hp,ho => by
  have:=g_Z h
  refine Ev.step (fun k => ?_) (e_r (out ++ pairs []) B (by simp [pairs];omega) hB)
  rw [a_o.l0,if_neg (by rw [d_m pre.length (by omega)];omega)]
  simp [pairs]
 | n,[x],pre,out,hn,h,hp,ho => by
  have hlen : B.length = pre.length + 1:=by rw [h];simp
  refine Ev.step (fun k => ?_) (e_r (out ++ pairs [x]) B (by simp [pairs];omega) hB)
  rw [a_o.l0,if_neg (by rw [d_m pre.length (by omega)];omega)]
  simp [pairs]
 | 0,x :: y :: suf,pre,out,hn,h,hp,ho => by simp at hn
 | n + 1,x :: y :: suf,pre,out,hn,h,hp,ho => by
  have hlen : B.length = pre.length + 2 + suf.length:=by rw [h];simp only [List.length_append,List.length_cons];omega
  have hx:=hB x (by rw [h];simp)
  have hy:=hB y (by rw [h];simp)
  have h2 : B = (pre ++ [x]) ++ y :: suf:=by rw [h];simp
  have r2 : rd B ((pre.length + 1 : Nat) : Int) = y:=by have:=rdi h2;simpa using this
  have ih:=h_F B hB hl n suf (pre ++ [x,y]) (out ++ [⟨x,y⟩]) (by simp at hn;omega) (by rw [h];simp) (by rw [List.length_append];omega) (by rw [List.length_append,List.length_append];simp only [List.length_cons,List.length_nil];omega)
  have ep : out ++ pairs (x :: y :: suf) = (out ++ [⟨x,y⟩]) ++ pairs suf:=by simp [pairs]
  rw [ep]
  refine Ev.step (f:=fun k => a_o.l0 k B ((pre ++ [x,y]).length : Int) (out ++ [⟨x,y⟩])) (fun k => ?_) ih
  have e2 : wrap64 ((pre.length : Int) + 2) = ((pre ++ [x,y]).length : Int):=by rw [f_s _ (by omega) (by omega)];simp
  rw [a_o.l0,d_m pre.length (by omega),if_pos (by omega),if_pos (by omega),if_pos (by omega),if_pos (by omega),if_pos (by omega),rdi h,r2,f_s x (by omega) (by omega),f_s y (by omega) (by omega),e2]
theorem e_B (B : List Int) (hB : Byt B) (hl : B.length ≤ 100000) : Ev (fun k => a_o.f k B) (decB B):=by
 unfold a_o.f
 cases B with
 | nil =>
  simp only [List.length_nil]
  refine Ev.step (f:=fun _ => some ([],7)) (fun k => ?_) (Ev.now _)
  rfl
 | cons h t =>
  have hh:=hB h (by simp)
  have hl' : t.length + 1 ≤ 100000:=by simpa using hl
  have r0 : rd (h :: t) 0 = h:=rfl
  simp only [r0,f_s h (by omega) (by omega),f_s (2 * h) (by omega) (by omega)]
  simp only [if_neg (show ¬ (((h :: t).length : Nat) : Int) = 0 by rw [List.length_cons];omega),if_pos (show 0 < (((h :: t).length : Nat) : Int) by rw [List.length_cons];omega)]
  have hc : (((h :: t).length : Nat) : Int) = (t.length : Int) + 1:=by simp
  rw [decB,hc]
  by_cases c : (t.length : Int) + 1 ≤ 2 * h
  ·rw [if_pos c]
   simp only [decide_eq_true c]
   refine Ev.step (f:=fun _ => some ([],7)) (fun k => ?_) (Ev.now _)
   rw [a_o.j0,if_pos rfl]
  rw [if_neg c]
  simp only [decide_eq_false c]
  refine Ev.step (f:=fun k => a_o.l0 k (h :: t) 1 []) (fun k => ?_) ?_
  ·rw [a_o.j0,if_neg (by decide)]
  exact h_F (h :: t) hB hl t.length t [h] [] (Nat.le_refl _) rfl (by simp) (by simp)
theorem f_k : ∀ (l : List S56),(∀ x ∈ l,0 ≤ x.f0 ∧ x.f0 < 4 ∧ 0 ≤ x.f1 ∧ x.f1 < 8) → pairs (l.flatMap encS) = l
 | [],_ => rfl
 | x :: l,h => by
  have hx:=h x (by simp)
  have e0 : x.f0 % 256 = x.f0:=by omega
  have e1 : x.f1 % 256 = x.f1:=by omega
  rw [List.flatMap_cons]
  show pairs (x.f0 % 256 :: x.f1 % 256 :: l.flatMap encS) = _
  rw [pairs,f_k l (fun y hy => h y (by simp [hy])),e0,e1]
theorem i_i {l : List S56} (h : okT l = true) : decB (encB l) = (l,0):=by
 have hl:=e_S h
 have hp:=f_k l (h_v h)
 have e : (l.length : Int) % 256 = l.length:=by omega
 unfold encB
 rw [decB,e_M,hp,if_neg (by omega),if_pos]
 exact ⟨h,rfl⟩
theorem i_h {l : List S56} (h : okT l = true) (i : Nat) (hi : i < (encB l).length) : decB ((encB l).take i) = ([],7):=by
 have hl:=e_S h
 rw [e_L] at hi
 have e : (l.length : Int) % 256 = l.length:=by omega
 cases i with
 | zero => rfl
 | succ i =>
  unfold encB
  rw [List.take_succ_cons,decB,if_pos]
  rw [List.length_take,e_M]
  omega
theorem g_E (B : List Int) : (decB B).2 = 0 ∧ okT (decB B).1 = true ∧ encB (decB B).1 = B ∨ (decB B).1 = [] ∧ ((decB B).2 = 7 ∨ (decB B).2 = 160):=by
 cases B with
 | nil => exact .inr ⟨rfl,.inl rfl⟩
 | cons h t =>
  rw [decB]
  split
  ·exact .inr ⟨rfl,.inl rfl⟩
  split
  ·next c => exact .inl ⟨rfl,c.1,c.2⟩
  exact .inr ⟨rfl,.inr rfl⟩
end Go.Proofs.YtcpfcehfgenljaaDoor.Pure
end
section
namespace Go.Proofs.YtcpfcehfgenljaaDoor.Pure
open Go.RowKit Go.Proofs.YtcpfcehfgenljaaDoor.Q Go.Proofs.YtcpfcehfgenljaaDoorW.PrintWords Go.Proofs.YtcpfcehfgenljaaDoorW.PrintLast Go.Proofs.YtcpfcehfgenljaaDoorW.PrintMore
set_option linter.unusedVariables false
set_option linter.unusedSimpArgs false
theorem f_S {B : List Int} (h : Byt B) (n : Nat) : Byt (B.take n):=fun x hx => h x (List.mem_of_mem_take hx)
theorem i_T (n : Nat) : mn (n : Int) 600 = ((min n 600 : Nat) : Int):=by unfold mn;split <;> omega
theorem g_w (b : List Int) (hb : Byt b) : Ev (fun k => a_f.j2 k b) true:=by
 have hB:=f_S hb (min b.length 600)
 have hlen : (b.take (min b.length 600)).length ≤ 600:=by rw [List.length_take];omega
 refine Ev.step (f:=fun k => (a_o.f k (b.take (min b.length 600))).bind fun bt218 => (if bt218.2 = 0 then ((a_s.f k bt218.1).bind fun bt223 => (if bt223.2 = 0 then ((bytes_Equal.f bt223.1 (b.take (min b.length 600))).bind fun t227 => (some t227)) else (some false))) else (if (bt218.1.length : Int) = 0 then (if bt218.2 = 7 then (some true) else (some (bt218.2 == 160))) else (some false)))) (fun k => ?_) ?_
 ·rw [a_f.j2,i_T,if_pos (by omega),if_pos (by omega),Int.toNat_natCast]
  rfl
 generalize b.take (min b.length 600) = B at hB hlen
 refine Ev.bind (e_B B hB (by omega)) ?_
 rcases g_E B with ⟨h0,hok,henc⟩ | ⟨h0,h7⟩
 ·have hl:=e_S hok
  simp only [if_pos h0]
  refine Ev.bind (e_C _ (by omega)) ?_
  simp only [hok,if_true,henc,g_y hB hB,Option.bind_some,decide_true]
  exact Ev.now _
 have hn : ¬ (decB B).2 = 0:=by omega
 simp only [if_neg hn,h0,List.length_nil]
 rcases h7 with h7|h7
 ·simp only [h7];exact Ev.now _
 simp only [h7];exact Ev.now _
theorem g_x (b : List Int) (hb : Byt b) (t : List S56) (ht : okT t = true) : ∀ n i,i + n = (encB t).length → Ev (fun k => a_f.l0 k b (encB t) ((encB t).length : Int) (i : Int)) true
 | 0,i,h => by
  refine Ev.step (fun k => ?_) (g_w b hb)
  rw [a_f.l0,if_neg (by omega)]
 | n + 1,i,h => by
  have hl:=e_S ht
  have hel:=e_L t
  have ih:=g_x b hb t ht n (i + 1) (by omega)
  refine Ev.step (f:=fun k => (a_o.f k ((encB t).take i)).bind fun bt208 => (if bt208.2 = 7 then (a_f.l0 k b (encB t) ((encB t).length : Int) ((i + 1 : Nat) : Int)) else (some false))) (fun k => ?_) ?_
  ·rw [a_f.l0,if_pos (by omega),if_pos (by omega),if_pos (by omega),Int.toNat_natCast,d_m i (by omega)]
  ·refine Ev.bind (e_B _ (f_S (e_K t) i) (by rw [List.length_take];omega)) ?_
   rw [i_h ht i (by omega)]
   exact ih
theorem f_R (l : List S56) (b : List Int) (h1 : wf24 ⟨l⟩) (h2 : b.length ≤ maxLen ∧ ∀ x ∈ b,(Lit.int .u8 x).wf = true) : ∃ k,a_f.f k l b = some true:=by
 have hb : Byt b:=fun x hx => by
  have:=bounds_u8 (h2.2 x hx)
  exact ⟨this.1,by omega⟩
 refine Ev.rounds (g:=fun k => a_f.f k l b) (Ev.bind h_z ?_)
 simp only [if_true,i_X,Option.bind_some]
 generalize ht : l.take 9 = t
 have hl9 : t.length ≤ 9:=by subst ht;rw [List.length_take];omega
 refine Ev.bind (e_C t (by omega)) ?_
 cases hok : okT t
 ·simp only [Bool.false_eq_true,if_false,show ((160 : Int) = 0) = False by simp]
  exact g_w b hb
 simp only [if_true]
 refine Ev.bind (e_B _ (e_K t) (by rw [e_L];omega)) ?_
 rw [i_i hok]
 simp only [if_true]
 refine Ev.bind (j_c t t (by omega)) ?_
 rw [h_l]
 refine Ev.step (f:=fun k => a_f.l0 k b (encB t) ((encB t).length : Int) 0) (fun k => ?_) (g_x b hb t hok (encB t).length 0 (by omega))
 rw [a_f.j0]
 rfl
end Go.Proofs.YtcpfcehfgenljaaDoor.Pure
end
section
namespace Go.Proofs.YtcpfcehfgenljaaDoor.topoBack
open Go.ChangeShapes Go.WideShapes Go.ChangeAt Go.RowKit Go.Proofs.YtcpfcehfgenljaaDoor.Q
open Go.Proofs.YtcpfcehfgenljaaDoorW.PrintWords Go.Proofs.YtcpfcehfgenljaaDoorW.PrintLast Go.Proofs.YtcpfcehfgenljaaDoorW.PrintMore
set_option linter.unusedVariables false
set_option linter.unusedSimpArgs false
theorem j_w {W : World} (h : laidMetH Tryd.prog Rows.topoBackRow.laid W) : b_Q W:=by
 rw [MakeChecks.laidMetH_plain _ _ _ (by kernel_rfl)] at h
 have h' : laidMet Tryd.prog [("math/bits.deBruijn32tab", Lib.tabData .u8 (Lib.deBruijn32tab.map fun n : Nat => (n : Int)))] W := h
 have ht:=Lib.tabIs_of_head (g:=0) (by kernel_rfl) (by kernel_rfl) Tryd.underlying97 Tryd.underlying5 (by kernel_rfl) (by kernel_rfl) h'
 intro j hj
 have hc:=ht.cell (g:=0) (by kernel_rfl) j (by simpa using hj)
 rw [hc]
 simp only [List.getD_eq_getElem?_getD,List.getElem?_map]
 rw [List.getElem?_eq_getElem hj]
 rfl
theorem h_j (os : Os) (args : Array Value) : laidMetH Tryd.prog Rows.topoBackRow.laid ((World.doorLaid Tryd.prog 14 os).forCall (fun _ _ => 0) ⟨#[],args,[]⟩).memory :=
 laidMetH_of_parts3 (fuel:=8) (laidMet_of_run' 8 (by kernel_rfl) (by kernel_rfl)) (by kernel_rfl) (by kernel_rfl)
set_option maxRecDepth 100000 in
theorem lifted (os : Os) (started : os.Started) (H : Type) (enc : TypeId × Value → H) :
 ReturnsInHanded {} Tryd.checked os 3 .any (fun w args => (Rows.topoBackSpec.pre enc Tryd.prog Tryd.f3 [] false w args ∧ laidMetH Tryd.prog Rows.topoBackRow.laid w) ∧ sizedMet enc Tryd.prog Tryd.f3 (OpenSpec.ofChange Rows.topoBackSpec) false w args) (Rows.topoBackSpec.post enc Tryd.prog Tryd.f3 false true false false):=by
 refine returnsInHanded_of_change_and (C:=Tryd.checked) (X:=fun w _ => laidMetH Tryd.prog Rows.topoBackRow.laid w) (fun _ _ _ hh h => h.of_heap hh) own started (by kernel_rfl) Tryd.func3
  (ChangeSpec.witness_shaped (enc:=enc) (C:=Tryd.checked) (os:=os) (X:=fun w _ => laidMetH Tryd.prog Rows.topoBackRow.laid w) false (World.doorLaid Tryd.prog 14 os) #[.agg #[.slice none 0 0],.slice none 0 0] 8 rfl (World.shaped_of_RefB (by kernel_rfl) (by kernel_rfl)) (by kernel_rfl) (by kernel_rfl) (by kernel_rfl) (h_j os _)) ?_
 intro W base args ds gs before hval0 hW hcnd hsz0 hL _
 have hT:=j_w hL
 have hval : ∀ (j : Nat) t v,Tryd.f3.params[j]? = some t → args[j]? = some v → Value.okWide Tryd.prog W .any base t v:=hval0
 have hW':=hW
 obtain ⟨p,q,hA0,hV,rfl,hfz,hnd⟩:=hW
 have hA : DataW.TrodAll enc Tryd.prog W 0 (fun _ => true) true Tryd.f3.params.toList args.toList ds p:=hA0
 rw [Tryd.params3] at hA hval
 obtain ⟨v0,vs0,d0,ds0,p0,q0,hargs,rfl,rfl,h0,r0⟩:=trodAll_cons hA
 obtain ⟨v1,vs1,d1,ds1,p1,q1,rfl,rfl,rfl,h1,r1⟩:=trodAll_cons r0
 obtain ⟨rfl,rfl,rfl⟩:=trodAll_nil r1
 obtain rfl : args = #[v0,v1]:=by cases args;simp_all
 obtain ⟨rfl,rfl⟩:=trodVars_none hV
 have k0:=h0
 have lt0 : ∀ x ∈ p0,x.block < W.heap.size:=by obtain ⟨m,hm⟩:=k0;exact DataW.trod_lt m _ _ _ hm
 obtain ⟨cs0,rfl,hz0⟩:=okWide_struct Tryd.underlying24 (hval 0 24 v0 rfl rfl)
 obtain ⟨fuel0,hf0⟩:=h0
 obtain ⟨x0,hK0,wf0_⟩:=op24.open_ hf0
 obtain ⟨A0_0,c0_0,he0,hc0_0,hr0_0⟩:=h_q hK0
 have hq0:=toList_eq he0
 simp only [Value.cells] at hq0
 subst hq0
 have k1:=h1
 have lt1 : ∀ x ∈ p1,x.block < W.heap.size:=by obtain ⟨m,hm⟩:=k1;exact DataW.trod_lt m _ _ _ hm
 obtain ⟨a1,len1,cap1,rfl⟩:=okWide_slice Tryd.underlying25 (hval 1 25 v1 rfl rfl)
 obtain ⟨fuel1,hf1⟩:=h1
 obtain ⟨l1,⟨A1,c1,he1,hc1,hr1⟩,wf1_⟩:=(c_0.slice Tryd.underlying25 (by kernel_rfl) (c_0.int Tryd.underlying5 (by kernel_rfl))).open_ hf1
 simp [Value.cells] at he1
 obtain ⟨rfl,rfl,rfl⟩:=he1
 obtain ⟨K,hK⟩:=Pure.f_R x0.f0 l1 wf0_ wf1_
 refine (a_f.calls _ _ _ _ _ _ _ _ _ _ hr0_0 hc0_0 (Kd.V_mk hc1 (Kd.C_F (Kd.h_p .u8) hr1)) hT hK).mono fun e W' ⟨he,bel⟩ => ?_
 subst he
 exact ⟨_,rfl,_,_,_,[],_,[],hW',trodAll_mk1 (shut_bool Tryd.underlying4 _),(trodAll_cons_mk (Below.trod laidOut (by kernel_rfl) (of_decide_eq_true (by kernel_rfl)) k0 bel lt0) (trodAll_cons_mk (Below.trod laidOut (by kernel_rfl) (of_decide_eq_true (by kernel_rfl)) k1 bel lt1) trodAll_mk0)),rfl,bel.frame _,fun h => by cases h⟩
theorem over : Rows.topoBackRow.holds Tryd.pinned (OpenSpec.ofChange Rows.topoBackSpec) :=
 OpenClaim.holds_of_wide 3 Tryd.f3 rfl rfl rfl rfl rfl rfl rfl ⟨rfl,rfl,rfl,rfl,rfl⟩ rfl rfl rfl rfl rfl (by kernel_rfl) Tryd.func3 (by kernel_rfl)
  (of_decide_eq_true (by kernel_rfl)) (by unfold Func.isWrapper;first|(rw [if_pos (by decide +kernel)];kernel_rfl)|(rw [if_neg (by decide +kernel)];exact ⟨rfl,rfl⟩))
  (fun os started H enc _ => lifted os started H enc)
theorem j_U : Rows.TopoBackCardSaid :=
 Claim7.holds_tied_plain_at .later [] [.data] true (true, "6dbd2b49adb5acd0b183bc1951f3d41c819263b5044b5d85a2e1d0af7c9bdaaa") false
  over (fun _ h => by cases h) (by kernel_rfl) (fun _ h => by cases h) topoBack_row_tie rfl ⟨rfl,rfl⟩ (by kernel_rfl) rfl
  (fun f fn hf hfn => by
   obtain rfl : f = 3 := Option.some.inj ((show Tryd.prog.funcNamed "mainsheet/mainsheetlaw06.TopoBack" = some 3 by kernel_rfl).symm.trans hf) |>.symm
   obtain rfl : fn = Tryd.f3:=(Option.some.inj (Tryd.func3.symm.trans hfn)).symm
   exact ⟨by kernel_rfl,fun j t ht => by
    rw [Tryd.params3] at ht
    rcases j with _|_|j
    ·obtain rfl : 24 = t:=by simpa using ht
     exact (show Tryd.prog.wantsStandIn 24 = false by kernel_rfl)
    ·obtain rfl : 25 = t:=by simpa using ht
     exact (show Tryd.prog.wantsStandIn 25 = false by kernel_rfl)
    ·simp at ht⟩)
  (by kernel_rfl)
theorem proved : Rows.TopoBackCardSaid:=j_U
#print axioms proved
end Go.Proofs.YtcpfcehfgenljaaDoor.topoBack
namespace Go.Proofs.YtcpfcehfgenljaaDoor
theorem topoBack_holds : Rows.TopoBackCardSaid:=topoBack.proved
end Go.Proofs.YtcpfcehfgenljaaDoor
end
