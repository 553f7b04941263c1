/- Part 6 of 7 of what the row of TopoBytes stands on: contracts over the given program's functions, the plain law, the row; no condition beyond those that each theorem states. -/
import Derived.Test.YtcpfcehfgenljaaDoorXTopoBytes4
section
namespace Go.Proofs.YtcpfcehfgenljaaDoor.Q
open Go.RowKit Go.Proofs.YtcpfcehfgenljaaDoorW.PrintWords Go.Proofs.YtcpfcehfgenljaaDoorW.PrintLast Go.Proofs.YtcpfcehfgenljaaDoorW.PrintMore
set_option linter.unusedVariables false
set_option linter.unusedSimpArgs false
mutual
def a_f.j1 : Nat → List (List Int) → Option (Bool)
 | 0,_ => none
 | k + 1,x1 => a_f.l1 k x1 (x1.length : Int) 0
def a_f.l1 : Nat → List (List Int) → Int → Int → Option (Bool)
 | 0,_,_,_ => none
 | k + 1,x64,x65,x66 => if x66 < x65 then (if 0 ≤ x66 then (if x66 < (x64.length : Int) then (if x66 = 12 then (some true) else ((some (([] : List Int) : List Int)).bind fun y441 => (if 0 ≤ (mn ((b_h x64 x66).length : Int) 600) then (if (mn ((b_h x64 x66).length : Int) 600) ≤ ((b_h x64 x66).length : Int) then (if y441.length + ((b_h x64 x66).take ((mn ((b_h x64 x66).length : Int) 600) : Int).toNat).length < 140737488355328 then ((some (y441 ++ ((b_h x64 x66).take ((mn ((b_h x64 x66).length : Int) 600) : Int).toNat) : List Int)).bind fun y445 => ((a_w.f k y445).bind fun bt448 => ((some (([] : List Int) : List Int)).bind fun y453 => (if y453.length + y445.length < 140737488355328 then ((a_h.f k (y453 ++ y445)).bind fun bt459 => (if bt448.2 = bt459.2 then ((a_t.f k bt448.1 bt459.1).bind fun t464 => (if t464 = true then (a_f.l1 k x64 x65 (wrap64 (x66 + 1))) else (some false))) else (some false))) else (none))))) else (none)) else (none)) else (none)))) else (none)) else (none)) else (some true)
def a_f.l0 : Nat → List (List Int) → List (S24) → Int → Int → Option (Bool)
 | 0,_,_,_,_ => none
 | k + 1,x1,x20,x21,x22 => if x22 < x21 then (if 0 ≤ x22 then (if x22 < (x20.length : Int) then (if x22 = 8 then (a_f.j1 k x1) else ((a_W.f ((b_B x20 x22).f0)).bind fun t427 => ((a_z.f k t427).bind fun bt431 => ((a_n.f k t427).bind fun t435 => (if t435 = true then (if bt431.2 = 0 then ((a_q.f k t427).bind fun t436 => ((bytes_Equal.f bt431.1 t436).bind fun t439 => (if t439 = true then (a_f.l0 k x1 x20 x21 (wrap64 (x22 + 1))) else (some false)))) else (some false)) else (if bt431.2 = 160 then (if (bt431.1.length : Int) = 0 then (a_f.l0 k x1 x20 x21 (wrap64 (x22 + 1))) else (some false)) else (some false))))))) else (none)) else (none)) else (a_f.j1 k x1)
end
def a_f.f (k : Nat) (l0 : List (S24)) (l1 : List (List Int)) : Option (Bool):=(a_E.f k).bind fun t424 => (if t424 = true then (a_f.l0 k l1 l0 (l0.length : Int) 0) else (some false))
theorem a_f.b_D : ∀ k,(∀ y0,LeO (a_f.j1 k y0) (a_f.j1 (k + 1) y0)) ∧ (∀ y0 y1 y2,LeO (a_f.l1 k y0 y1 y2) (a_f.l1 (k + 1) y0 y1 y2)) ∧ (∀ y0 y1 y2 y3,LeO (a_f.l0 k y0 y1 y2 y3) (a_f.l0 (k + 1) y0 y1 y2 y3))
 | 0 => ⟨fun _ r h => by simp [a_f.j1] at h,fun _ _ _ r h => by simp [a_f.l1] at h,fun _ _ _ _ r h => by simp [a_f.l0] at h⟩
 | k + 1 => by
  obtain ⟨ih0,ih1,ih2⟩:=a_f.b_D k
  refine ⟨?_,?_,?_⟩
  ·intro y0
   unfold a_f.j1
   repeat' first
   | (with_reducible exact ih0 _)
   | (with_reducible exact ih1 _ _ _)
   | (with_reducible exact ih2 _ _ _ _)
   | (with_reducible exact a_E.mono _)
   | (with_reducible exact a_q.mono _ _)
   | (with_reducible exact a_h.mono _ _)
   | (with_reducible exact a_n.mono _ _)
   | (with_reducible exact a_t.mono _ _ _)
   | (with_reducible exact a_w.mono _ _)
   | (with_reducible exact a_z.mono _ _)
   | (with_reducible exact LeO.refl _)
   | (with_reducible exact LeO.none _)
   | (with_reducible refine LeO.ite ?_ ?_)
   | (with_reducible refine LeO.bind ?_ (fun _ => ?_))
   | exact ih0 _
   | exact ih1 _ _ _
   | exact ih2 _ _ _ _
   | exact a_E.mono _
   | exact a_q.mono _ _
   | exact a_h.mono _ _
   | exact a_n.mono _ _
   | exact a_t.mono _ _ _
   | exact a_w.mono _ _
   | exact a_z.mono _ _
   | exact LeO.none _
   | refine LeO.ite ?_ ?_
   | refine LeO.bind ?_ (fun _ => ?_)
  ·intro y0 y1 y2
   unfold a_f.l1
   repeat' first
   | (with_reducible exact ih0 _)
   | (with_reducible exact ih1 _ _ _)
   | (with_reducible exact ih2 _ _ _ _)
   | (with_reducible exact a_E.mono _)
   | (with_reducible exact a_q.mono _ _)
   | (with_reducible exact a_h.mono _ _)
   | (with_reducible exact a_n.mono _ _)
   | (with_reducible exact a_t.mono _ _ _)
   | (with_reducible exact a_w.mono _ _)
   | (with_reducible exact a_z.mono _ _)
   | (with_reducible exact LeO.refl _)
   | (with_reducible exact LeO.none _)
   | (with_reducible refine LeO.ite ?_ ?_)
   | (with_reducible refine LeO.bind ?_ (fun _ => ?_))
   | exact ih0 _
   | exact ih1 _ _ _
   | exact ih2 _ _ _ _
   | exact a_E.mono _
   | exact a_q.mono _ _
   | exact a_h.mono _ _
   | exact a_n.mono _ _
   | exact a_t.mono _ _ _
   | exact a_w.mono _ _
   | exact a_z.mono _ _
   | exact LeO.none _
   | refine LeO.ite ?_ ?_
   | refine LeO.bind ?_ (fun _ => ?_)
  ·intro y0 y1 y2 y3
   unfold a_f.l0
   repeat' first
   | (with_reducible exact ih0 _)
   | (with_reducible exact ih1 _ _ _)
   | (with_reducible exact ih2 _ _ _ _)
   | (with_reducible exact a_E.mono _)
   | (with_reducible exact a_q.mono _ _)
   | (with_reducible exact a_h.mono _ _)
   | (with_reducible exact a_n.mono _ _)
   | (with_reducible exact a_t.mono _ _ _)
   | (with_reducible exact a_w.mono _ _)
   | (with_reducible exact a_z.mono _ _)
   | (with_reducible exact LeO.refl _)
   | (with_reducible exact LeO.none _)
   | (with_reducible refine LeO.ite ?_ ?_)
   | (with_reducible refine LeO.bind ?_ (fun _ => ?_))
   | exact ih0 _
   | exact ih1 _ _ _
   | exact ih2 _ _ _ _
   | exact a_E.mono _
   | exact a_q.mono _ _
   | exact a_h.mono _ _
   | exact a_n.mono _ _
   | exact a_t.mono _ _ _
   | exact a_w.mono _ _
   | exact a_z.mono _ _
   | exact LeO.none _
   | refine LeO.ite ?_ ?_
   | refine LeO.bind ?_ (fun _ => ?_)
theorem a_f.mono : ∀ a0 a1 k,LeO (a_f.f k a0 a1) (a_f.f (k + 1) a0 a1):=by
 intro a0 a1 k
 obtain ⟨ih0,ih1,ih2⟩:=a_f.b_D k
 unfold a_f.f
 repeat' first
  | (with_reducible exact ih0 _)
  | (with_reducible exact ih1 _ _ _)
  | (with_reducible exact ih2 _ _ _ _)
  | (with_reducible exact a_E.mono _)
  | (with_reducible exact a_q.mono _ _)
  | (with_reducible exact a_h.mono _ _)
  | (with_reducible exact a_n.mono _ _)
  | (with_reducible exact a_t.mono _ _ _)
  | (with_reducible exact a_w.mono _ _)
  | (with_reducible exact a_z.mono _ _)
  | (with_reducible exact LeO.refl _)
  | (with_reducible exact LeO.none _)
  | (with_reducible refine LeO.ite ?_ ?_)
  | (with_reducible refine LeO.bind ?_ (fun _ => ?_))
  | exact ih0 _
  | exact ih1 _ _ _
  | exact ih2 _ _ _ _
  | exact a_E.mono _
  | exact a_q.mono _ _
  | exact a_h.mono _ _
  | exact a_n.mono _ _
  | exact a_t.mono _ _ _
  | exact a_w.mono _ _
  | exact a_z.mono _ _
  | exact LeO.none _
  | refine LeO.ite ?_ ?_
  | refine LeO.bind ?_ (fun _ => ?_)
set_option maxHeartbeats 8000000 in
set_option maxRecDepth 100000 in
theorem a_f.calls (k : Nat) (A0 : Option Addr) (c0 : Nat) (l0 : List (S24)) (A1 : Option Addr) (c1 : Nat) (l1 : List (List Int)) (r : Bool) (w : World) (hr0 : Kd.C k24 w A0 l0.length l0) (hc0 : l0.length ≤ c0) (hr1 : Kd.C (Kd.slice 5 (Kd.int .u8)) w A1 l1.length l1) (hc1 : l1.length ≤ c1) (ht : b_9 w) (h : a_f.f k l0 l1 = some r) :
 Calls Tryd.prog 9 #[.slice A0 l0.length c0,.slice A1 l1.length c1] w fun e w' => e = .returned (.bool r) ∧ Below w.heap.size w w':=by
 have hu24:=Tryd.underlying24
 have HTAB_:=a_a.mk ht
 clear ht
 have HR0:=a_a.mk hr0
 have HC0:=a_a.mk hc0
 clear hr0 hc0
 have HR1:=a_a.mk hr1
 have HC1:=a_a.mk hc1
 clear hr1 hc1
 have HB:=a_a.mk (Below.refl w.heap.size w)
 have H : ((a_E.f k).bind fun t424 => (if t424 = true then (a_f.l0 k l1 l0 (l0.length : Int) 0) else (some false))) = some r:=h
 clear h
 replace H:=Option.bind_eq_some_iff.mp H
 obtain ⟨t424,A30,H⟩:=H
 replace H : (if t424 = true then (a_f.l0 k l1 l0 (l0.length : Int) 0) else (some false)) = some r:=H
 have A3:=a_a.mk A30
 clear A30
 by_cases c4 : t424 = true
 rotate_left
 ·replace c4:=Bool.eq_false_iff.mpr c4
  subst c4
  have H1 : (some false) = some r:=by rw [if_neg (show ¬ (false = true) by decide)] at H;exact H
  clear H
  have H:=H1
  clear H1
  obtain rfl:=Option.some.inj H
  go_enter Tryd.func9,Tryd.ntmps9
  go_wp2_with (first|((with_reducible refine a_y (f:=10) rfl ?_);refine a_U (some 18) rfl rfl Tryd.func10 (by kernel_rfl) rfl #[] rfl (by (try simp only [List.map_toArray,List.map_cons,List.map_nil]);first|done|rfl|(simp only [List.length_drop,List.length_take];rfl)) ?_;(with_reducible refine (a_E.calls k  false _ ?side1 A3.out).mono ?_);(case side1 => exact b_9.below HTAB_.out (lup_ HB.out));rintro e w165 ⟨rfl,hb⟩;refine ⟨_,rfl,?_⟩;replace HB:=a_a.mk (a_i (lup_ HB.out) hb);(try clear hb);(try clear hb2);(try clear hk);(try clear hi)))
  go_ret
  exact ⟨by first|rfl|(simp [a_r,a_s] <;> rfl)|(simp [*, a_r,a_s] <;> rfl),by repeat (first|(with_reducible first|exact HB.out|apply a_c|apply a_b|apply a_d)|exact HB.out)⟩
 subst c4
 have H1 : (a_f.l0 k l1 l0 (l0.length : Int) 0) = some r:=by rw [if_pos rfl] at H;exact H
 clear H
 have H:=H1
 clear H1
 have HC5:=a_a.mk H
 clear H
 go_enter Tryd.func9,Tryd.ntmps9
 go_upto_block 0 with (first|((with_reducible refine a_y (f:=10) rfl ?_);refine a_U (some 18) rfl rfl Tryd.func10 (by kernel_rfl) rfl #[] rfl (by (try simp only [List.map_toArray,List.map_cons,List.map_nil]);first|done|rfl|(simp only [List.length_drop,List.length_take];rfl)) ?_;(with_reducible refine (a_E.calls k  true _ ?side1 A3.out).mono ?_);(case side1 => exact b_9.below HTAB_.out (lup_ HB.out));rintro e w6 ⟨rfl,hb⟩;refine ⟨_,rfl,?_⟩;replace HB:=a_a.mk (a_i (lup_ HB.out) hb);(try clear hb);(try clear hb2);(try clear hk);(try clear hi)))
 (try simp only [Act.put,sa_,sb_,sc_])
 go_cut [] (fun wc => ∃ (kq : Nat),a_a (a_f.j1 kq l1 = some r) ∧ a_a (kq ≤ k) ∧ a_a (Below w.heap.size w wc))
 case first =>
  have H:=HC5.out
  clear HC5
  have H':=a_a.mk H
  clear H
  go_wp2
  go_loopg [22] k (fun kq v22 w' => ∃ (x22_1 : Int),v22 = .int .i64 x22_1 ∧ a_a (a_f.l0 kq l1 l0 (l0.length : Int) x22_1 = some r) ∧ a_a (kq ≤ k) ∧ a_a (Below w.heap.size w w'))
  case atStart => exact ⟨(0),(by first|rfl|(simp;done)|(simp [*];done)),H',⟨Nat.le_refl _⟩,⟨by repeat (first|(with_reducible first|exact HB.out|apply a_c|apply a_b|apply a_d)|exact HB.out)⟩⟩
  case round =>
   clear H'
   try clear c1
   try clear p2
   try clear c4
   obtain ⟨x22_1,rfl,HA,HK1,HB⟩:=hrel
   cases gk with
   | zero => exact absurd HA.out (by simp [a_f.l0])
   | succ k1 =>
    have H:=HA.out
    clear HA
    simp only [a_f.l0] at H
    by_cases c7 : x22_1 < (l0.length : Int)
    rotate_left
    ·rw [if_neg c7] at H
     have c7b0 : decide (x22_1 < (l0.length : Int)) = false:=decide_eq_false c7
     clear c7
     (first|rw [c7b0]|(simp only [b_0,c_g];rw [c7b0])|skip)
     have H':=a_a.mk H
     clear H
     go_wp2
     go_meet
     case rel => exact ⟨_,H',⟨by have:=HK1.out;first|omega|exact Nat.le_refl _⟩,⟨by repeat (first|(with_reducible first|exact HB.out|apply a_c|apply a_b|apply a_d)|exact HB.out)⟩⟩
    rw [if_pos c7] at H
    have c7b0 : decide (x22_1 < (l0.length : Int)) = true:=decide_eq_true c7
    clear c7
    (first|rw [c7b0]|(simp only [b_0,c_g];rw [c7b0])|skip)
    by_cases c8 : 0 ≤ x22_1
    rotate_left
    ·rw [if_neg c8] at H
     exact absurd H (by simp)
    rw [if_pos c8] at H
    have c8b0 : decide (0 ≤ x22_1) = true:=decide_eq_true c8
    clear c8
    by_cases c9 : x22_1 < (l0.length : Int)
    rotate_left
    ·rw [if_neg c9] at H
     exact absurd H (by simp)
    rw [if_pos c9] at H
    have c9b0 : decide (x22_1 < (l0.length : Int)) = true:=decide_eq_true c9
    clear c9
    by_cases c10 : x22_1 = 8
    ·rw [if_pos c10] at H
     have c10b0 : (x22_1 == 8) = true:=beq_iff_eq.mpr c10
     have c10b1 : (x22_1 != 8) = false:=bne_eq_false_iff_eq.mpr c10
     clear c10
     have H':=a_a.mk H
     clear H
     have p425 : 0 ≤ (x22_1 : Int):=of_decide_eq_true (by first|(with_reducible assumption)|assumption)
     have q425 : x22_1 < (l0.length : Int):=of_decide_eq_true (by first|(with_reducible assumption)|assumption)
     obtain ⟨ad425,A425_0,c425_0,e425,b_d,b_K,b_J⟩:=e_J HR0.out x22_1 p425 q425
     cases e425
     replace b_d:=(HB.out.cell (World.block_lt_of_cell? w _ b_d)).trans b_d
     have c_C:=a_a.mk b_J
     have c_B:=a_a.mk b_K
     clear b_J b_K
     replace p425:=eq_true p425
     replace q425:=eq_true q425
     go_wp2_with (first|((with_reducible refine a_B (N:=6) rfl ?_);(try (refine a_D (by rfl) ?_;dsimp only));refine a_A ?hg (N:=6) ?hd (cs:=#[.slice none 0 0]) (t:=24) ?hr ?_;(case hd => rfl);(case hg => rfl);(case hr => first|(go_simp;done)|(go_simp;rfl));intro b_s hg w11 hbox hb;have a_Y:=a_a.mk (hbox);have h_p:=a_a.mk ((by rw [hg];exact (a_g (lup_ HB.out)) : w.heap.size ≤ b_s));have a_6:=a_a.mk ((by rw [hg];exact (a_g (lup_ HB.out)) : w.heap.size ≤ b_s));replace HB:=a_a.mk (a_i (lup_ HB.out) hb);clear hb hbox hg;have f_E : w11.cell? ⟨b_s,0,none⟩ = some (.slice none 0 0):=(a_m a_Y.out 0).trans rfl;have f_I:=a_j a_Y.out 0))
     go_meet
     case rel => exact ⟨_,H',⟨by have:=HK1.out;first|omega|exact Nat.le_refl _⟩,⟨by repeat (first|(with_reducible first|exact HB.out|apply a_c|apply a_b|apply a_d|refine a_e ?_ a_6.out)|exact HB.out)⟩⟩
    rw [if_neg c10] at H
    have c10b0 : (x22_1 == 8) = false:=beq_eq_false_iff_ne.mpr c10
    have c10b1 : (x22_1 != 8) = true:=bne_iff_ne.mpr c10
    replace H:=Option.bind_eq_some_iff.mp H
    obtain ⟨t427,A130,H⟩:=H
    replace H : ((a_z.f k1 t427).bind fun bt431 => ((a_n.f k1 t427).bind fun t435 => (if t435 = true then (if bt431.2 = 0 then ((a_q.f k1 t427).bind fun t436 => ((bytes_Equal.f bt431.1 t436).bind fun t439 => (if t439 = true then (a_f.l0 k1 l1 l0 (l0.length : Int) (wrap64 (x22_1 + 1))) else (some false)))) else (some false)) else (if bt431.2 = 160 then (if (bt431.1.length : Int) = 0 then (a_f.l0 k1 l1 l0 (l0.length : Int) (wrap64 (x22_1 + 1))) else (some false)) else (some false))))) = some r:=H
    have A13:=a_a.mk A130
    clear A130
    replace H:=Option.bind_eq_some_iff.mp H
    obtain ⟨⟨t431,t434⟩,A140,H⟩:=H
    replace H : ((a_n.f k1 t427).bind fun t435 => (if t435 = true then (if t434 = 0 then ((a_q.f k1 t427).bind fun t436 => ((bytes_Equal.f t431 t436).bind fun t439 => (if t439 = true then (a_f.l0 k1 l1 l0 (l0.length : Int) (wrap64 (x22_1 + 1))) else (some false)))) else (some false)) else (if t434 = 160 then (if (t431.length : Int) = 0 then (a_f.l0 k1 l1 l0 (l0.length : Int) (wrap64 (x22_1 + 1))) else (some false)) else (some false)))) = some r:=H
    have A14:=a_a.mk A140
    clear A140
    replace H:=Option.bind_eq_some_iff.mp H
    obtain ⟨t435,A150,H⟩:=H
    replace H : (if t435 = true then (if t434 = 0 then ((a_q.f k1 t427).bind fun t436 => ((bytes_Equal.f t431 t436).bind fun t439 => (if t439 = true then (a_f.l0 k1 l1 l0 (l0.length : Int) (wrap64 (x22_1 + 1))) else (some false)))) else (some false)) else (if t434 = 160 then (if (t431.length : Int) = 0 then (a_f.l0 k1 l1 l0 (l0.length : Int) (wrap64 (x22_1 + 1))) else (some false)) else (some false))) = some r:=H
    have A15:=a_a.mk A150
    clear A150
    by_cases c16 : t435 = true
    rotate_left
    ·replace c16:=Bool.eq_false_iff.mpr c16
     subst c16
     have H1 : (if t434 = 160 then (if (t431.length : Int) = 0 then (a_f.l0 k1 l1 l0 (l0.length : Int) (wrap64 (x22_1 + 1))) else (some false)) else (some false)) = some r:=by rw [if_neg (show ¬ (false = true) by decide)] at H;exact H
     clear H
     have H:=H1
     clear H1
     by_cases c59 : t434 = 160
     rotate_left
     ·rw [if_neg c59] at H
      have c59b0 : (t434 == 160) = false:=beq_eq_false_iff_ne.mpr c59
      have c59b1 : (t434 != 160) = true:=bne_iff_ne.mpr c59
      obtain rfl:=Option.some.inj H
      have p425 : 0 ≤ (x22_1 : Int):=of_decide_eq_true (by first|(with_reducible assumption)|assumption)
      have q425 : x22_1 < (l0.length : Int):=of_decide_eq_true (by first|(with_reducible assumption)|assumption)
      obtain ⟨ad425,A425_0,c425_0,e425,b_d,b_K,b_J⟩:=e_J HR0.out x22_1 p425 q425
      cases e425
      replace b_d:=(HB.out.cell (World.block_lt_of_cell? w _ b_d)).trans b_d
      have c_C:=a_a.mk b_J
      have c_B:=a_a.mk b_K
      clear b_J b_K
      replace p425:=eq_true p425
      replace q425:=eq_true q425
      go_wp2_with (first|((with_reducible refine a_B (N:=6) rfl ?_);(try (refine a_D (by rfl) ?_;dsimp only));refine a_A ?hg (N:=6) ?hd (cs:=#[.slice none 0 0]) (t:=24) ?hr ?_;(case hd => rfl);(case hg => rfl);(case hr => first|(go_simp;done)|(go_simp;rfl));intro b_s hg w83 hbox hb;have a_Y:=a_a.mk (hbox);have h_p:=a_a.mk ((by rw [hg];exact (a_g (lup_ HB.out)) : w.heap.size ≤ b_s));have a_6:=a_a.mk ((by rw [hg];exact (a_g (lup_ HB.out)) : w.heap.size ≤ b_s));replace HB:=a_a.mk (a_i (lup_ HB.out) hb);clear hb hbox hg;have i_y : w83.cell? ⟨b_s,0,none⟩ = some (.slice none 0 0):=(a_m a_Y.out 0).trans rfl;have i_P:=a_j a_Y.out 0)|((with_reducible refine a_y (f:=11) rfl ?_);refine a_U (some 30) rfl rfl Tryd.func11 (by kernel_rfl) rfl #[.agg #[.slice A425_0 ((b_B l0 x22_1).f0).length c425_0]] rfl (by (try simp only [List.map_toArray,List.map_cons,List.map_nil]);first|done|rfl|(simp only [List.length_drop,List.length_take];rfl)) ?_;(with_reducible refine (a_W.calls _ _ ((b_B l0 x22_1).f0) t427 _ ?side1 ?side2 A13.out).mono ?_);(case side1 => exact Kd.a_P c_C.out (by repeat (first|(with_reducible first|exact HB.out|apply a_c|apply a_b|apply a_d|refine a_e ?_ a_6.out)|exact HB.out)));(case side2 => exact c_B.out);rintro e w85 ⟨v428,rfl,ho0,hb⟩;refine ⟨_,rfl,?_⟩;have a_2:=a_a.mk (Kd.a_S ho0 (a_g (by repeat (first|(with_reducible first|exact HB.out|apply a_c|apply a_b|apply a_d|refine a_e ?_ a_6.out)|exact HB.out))));replace a_Y:=a_a.mk (a_p (g:=b_s) (o:=.cells #[.slice A425_0 ((b_B l0 x22_1).f0).length c425_0] 24 (0,0)) (by (with_reducible repeat (first|refine a_l ?_ _|refine a_o ?_|refine a_k ?_ _));refine a_R (cs:=#[.slice none 0 0]) ?_ 0 _ rfl;(with_reducible repeat (first|refine a_l ?_ _|refine a_o ?_|refine a_k ?_ _));exact a_Y.out) hb);replace HB:=a_a.mk (a_i (by repeat (first|(with_reducible first|exact HB.out|apply a_c|apply a_b|apply a_d|refine a_e ?_ a_6.out)|exact HB.out)) hb);(try clear hb);(try clear hb2);(try clear hk);(try clear hi);(try clear ho0))|((with_reducible refine a_B (N:=7) rfl ?_);(try (refine a_D (by rfl) ?_;dsimp only));refine a_A ?hg (N:=7) ?hd (cs:=#[.slice none 0 0]) (t:=24) ?hr ?_;(case hd => rfl);(case hg => rfl);(case hr => first|(go_simp;done)|(go_simp;rfl));intro b_b hg w86 hbox hb;have a_3:=a_a.mk (hbox);have h_L:=a_a.mk ((by rw [hg];exact (a_g (by repeat (first|(with_reducible first|exact HB.out|apply a_c|apply a_b|apply a_d|refine a_e ?_ a_6.out)|exact HB.out))) : w.heap.size ≤ b_b));have c_f:=a_a.mk ((by rw [hg];exact (a_g (by repeat (first|(with_reducible first|exact HB.out|apply a_c|apply a_b|apply a_d|refine a_e ?_ a_6.out)|exact HB.out))) : w.heap.size ≤ b_b));have b_n:=a_a.mk ((by rw [hg];exact Nat.ne_of_lt (a_M (bup_ a_Y.out)) : b_s ≠ b_b));have b_8:=a_a.mk ((by rw [hg];exact Nat.ne_of_gt (a_M (bup_ a_Y.out)) : b_b ≠ b_s));replace a_2:=a_a.mk (Kd.a_C (rup_ a_2.out) hb);replace a_Y:=a_a.mk (a_p (bup_ a_Y.out) hb);replace HB:=a_a.mk (a_i (by repeat (first|(with_reducible first|exact HB.out|apply a_c|apply a_b|apply a_d|refine a_e ?_ a_6.out)|exact HB.out)) hb);clear hb hbox hg;obtain ⟨Ao87,co87,eo87⟩:=Kd.a_V a_2.out;subst eo87;have n_P:=b_8.out;have o_b:=b_n.out;have i_z : w86.cell? ⟨b_b,0,none⟩ = some (.slice none 0 0):=(a_m a_3.out 0).trans rfl;have i_Q:=a_j a_3.out 0)|((with_reducible refine a_y (f:=12) rfl ?_);refine a_U (some 33) rfl rfl Tryd.func12 (by kernel_rfl) rfl #[.agg #[.slice Ao87 t427.length co87]] rfl (by (try simp only [List.map_toArray,List.map_cons,List.map_nil]);first|done|rfl|(simp only [List.length_drop,List.length_take];rfl)) ?_;(with_reducible refine (a_z.calls k1 _ _ t427 t431 t434 _ ?side1 ?side2 A14.out).mono ?_);(case side1 => refine (Kd.a_v (e:=56) (base:=w.heap.size) (ok:=fun k_ => True) (n:=t427.length) (c:=co87) ?_).2.2;exact (by (with_reducible repeat (first|apply Kd.a_G|apply Kd.a_H|apply Kd.a_O));exact (Kd.a_Q (Kd.b_a (p:=⟨b_b,0,none⟩) (Kd.a_N a_2.out a_3.out (by decide)) (fun _ hk => hk.2) (.slice Ao87 t427.length co87)) (fun _ h_ => h_.1))));(case side2 => exact (Kd.a_v a_2.out).2.1);rintro e w90 ⟨v432,rfl,ho0,hb⟩;refine ⟨_,rfl,?_⟩;have c_h:=a_a.mk (Kd.a_S ho0 (a_g (by repeat (first|(with_reducible first|exact HB.out|apply a_c|apply a_b|apply a_d|refine a_e ?_ a_6.out|refine a_e ?_ c_f.out)|exact HB.out))));replace a_2:=a_a.mk (Kd.a_C (by (with_reducible repeat (first|apply Kd.a_G|apply Kd.a_H|apply Kd.a_O));exact (Kd.a_Q (Kd.b_a (p:=⟨b_b,0,none⟩) (Kd.a_N a_2.out a_3.out (by decide)) (fun _ hk => hk.2) (.slice Ao87 t427.length co87)) (fun _ h_ => h_.1))) hb);replace a_Y:=a_a.mk (a_p (g:=b_s) (o:=.cells #[.slice A425_0 ((b_B l0 x22_1).f0).length c425_0] 24 (0,0)) (by (with_reducible repeat (first|refine a_l ?_ _|refine a_o ?_|refine a_k ?_ _));refine a_9 ?_ b_n.out _;(with_reducible repeat (first|refine a_l ?_ _|refine a_o ?_|refine a_k ?_ _));exact a_Y.out) hb);replace a_3:=a_a.mk (a_p (g:=b_b) (o:=.cells #[.slice Ao87 t427.length co87] 24 (0,0)) (by (with_reducible repeat (first|refine a_l ?_ _|refine a_o ?_|refine a_k ?_ _));refine a_R (cs:=#[.slice none 0 0]) ?_ 0 _ rfl;(with_reducible repeat (first|refine a_l ?_ _|refine a_o ?_|refine a_k ?_ _));exact a_3.out) hb);replace HB:=a_a.mk (a_i (by repeat (first|(with_reducible first|exact HB.out|apply a_c|apply a_b|apply a_d|refine a_e ?_ a_6.out|refine a_e ?_ c_f.out)|exact HB.out)) hb);(try clear hb);(try clear hb2);(try clear hk);(try clear hi);(try clear ho0);have i_A : w90.cell? ⟨b_b,0,none⟩ = some (.slice Ao87 t427.length co87):=(a_m a_3.out 0).trans rfl;have i_R:=a_j a_3.out 0)|((with_reducible refine a_y (f:=16) rfl ?_);refine a_U (some 37) rfl rfl Tryd.func16 (by kernel_rfl) rfl #[.agg #[.slice Ao87 t427.length co87]] rfl (by (try simp only [List.map_toArray,List.map_cons,List.map_nil]);first|done|rfl|(simp only [List.length_drop,List.length_take];rfl)) ?_;(with_reducible refine (a_n.calls k1 _ _ t427 false _ ?side1 ?side2 A15.out).mono ?_);(case side1 => repeat (first|exact (Kd.a_v a_2.out).2.2|(with_reducible refine Kd.a_I ?_ _)|(with_reducible refine Kd.a_J ?_ _)|(with_reducible refine Kd.a_T ?_)));(case side2 => exact (Kd.a_v a_2.out).2.1);rintro e w92 ⟨rfl,hb⟩;refine ⟨_,rfl,?_⟩;replace a_2:=a_a.mk (Kd.a_C (rup_ a_2.out) hb);replace c_h:=a_a.mk (Kd.a_C (rup_ c_h.out) hb);replace a_Y:=a_a.mk (a_p (bup_ a_Y.out) hb);replace a_3:=a_a.mk (a_p (bup_ a_3.out) hb);replace HB:=a_a.mk (a_i (by repeat (first|(with_reducible first|exact HB.out|apply a_c|apply a_b|apply a_d|refine a_e ?_ a_6.out|refine a_e ?_ c_f.out)|exact HB.out)) hb);(try clear hb);(try clear hb2);(try clear hk);(try clear hi)))
      go_ret
      exact ⟨by first|rfl|(simp [a_r,a_s] <;> rfl)|(simp [*, a_r,a_s] <;> rfl),by repeat (first|(with_reducible first|exact HB.out|apply a_c|apply a_b|apply a_d|refine a_e ?_ a_6.out|refine a_e ?_ c_f.out)|exact HB.out)⟩
     rw [if_pos c59] at H
     have c59b0 : (t434 == 160) = true:=beq_iff_eq.mpr c59
     have c59b1 : (t434 != 160) = false:=bne_eq_false_iff_eq.mpr c59
     clear c59
     by_cases c60 : (t431.length : Int) = 0
     ·rw [if_pos c60] at H
      have c60b0 : ((t431.length : Int) == 0) = true:=beq_iff_eq.mpr c60
      have c60b1 : ((t431.length : Int) != 0) = false:=bne_eq_false_iff_eq.mpr c60
      clear c60
      have H':=a_a.mk H
      clear H
      have p425 : 0 ≤ (x22_1 : Int):=of_decide_eq_true (by first|(with_reducible assumption)|assumption)
      have q425 : x22_1 < (l0.length : Int):=of_decide_eq_true (by first|(with_reducible assumption)|assumption)
      obtain ⟨ad425,A425_0,c425_0,e425,b_d,b_K,b_J⟩:=e_J HR0.out x22_1 p425 q425
      cases e425
      replace b_d:=(HB.out.cell (World.block_lt_of_cell? w _ b_d)).trans b_d
      have c_C:=a_a.mk b_J
      have c_B:=a_a.mk b_K
      clear b_J b_K
      replace p425:=eq_true p425
      replace q425:=eq_true q425
      go_wp2_with (first|((with_reducible refine a_B (N:=6) rfl ?_);(try (refine a_D (by rfl) ?_;dsimp only));refine a_A ?hg (N:=6) ?hd (cs:=#[.slice none 0 0]) (t:=24) ?hr ?_;(case hd => rfl);(case hg => rfl);(case hr => first|(go_simp;done)|(go_simp;rfl));intro b_s hg w61 hbox hb;have a_Y:=a_a.mk (hbox);have h_p:=a_a.mk ((by rw [hg];exact (a_g (lup_ HB.out)) : w.heap.size ≤ b_s));have a_6:=a_a.mk ((by rw [hg];exact (a_g (lup_ HB.out)) : w.heap.size ≤ b_s));replace HB:=a_a.mk (a_i (lup_ HB.out) hb);clear hb hbox hg;have g_J : w61.cell? ⟨b_s,0,none⟩ = some (.slice none 0 0):=(a_m a_Y.out 0).trans rfl;have g_V:=a_j a_Y.out 0)|((with_reducible refine a_y (f:=11) rfl ?_);refine a_U (some 30) rfl rfl Tryd.func11 (by kernel_rfl) rfl #[.agg #[.slice A425_0 ((b_B l0 x22_1).f0).length c425_0]] rfl (by (try simp only [List.map_toArray,List.map_cons,List.map_nil]);first|done|rfl|(simp only [List.length_drop,List.length_take];rfl)) ?_;(with_reducible refine (a_W.calls _ _ ((b_B l0 x22_1).f0) t427 _ ?side1 ?side2 A13.out).mono ?_);(case side1 => exact Kd.a_P c_C.out (by repeat (first|(with_reducible first|exact HB.out|apply a_c|apply a_b|apply a_d|refine a_e ?_ a_6.out)|exact HB.out)));(case side2 => exact c_B.out);rintro e w63 ⟨v428,rfl,ho0,hb⟩;refine ⟨_,rfl,?_⟩;have a_2:=a_a.mk (Kd.a_S ho0 (a_g (by repeat (first|(with_reducible first|exact HB.out|apply a_c|apply a_b|apply a_d|refine a_e ?_ a_6.out)|exact HB.out))));replace a_Y:=a_a.mk (a_p (g:=b_s) (o:=.cells #[.slice A425_0 ((b_B l0 x22_1).f0).length c425_0] 24 (0,0)) (by (with_reducible repeat (first|refine a_l ?_ _|refine a_o ?_|refine a_k ?_ _));refine a_R (cs:=#[.slice none 0 0]) ?_ 0 _ rfl;(with_reducible repeat (first|refine a_l ?_ _|refine a_o ?_|refine a_k ?_ _));exact a_Y.out) hb);replace HB:=a_a.mk (a_i (by repeat (first|(with_reducible first|exact HB.out|apply a_c|apply a_b|apply a_d|refine a_e ?_ a_6.out)|exact HB.out)) hb);(try clear hb);(try clear hb2);(try clear hk);(try clear hi);(try clear ho0))|((with_reducible refine a_B (N:=7) rfl ?_);(try (refine a_D (by rfl) ?_;dsimp only));refine a_A ?hg (N:=7) ?hd (cs:=#[.slice none 0 0]) (t:=24) ?hr ?_;(case hd => rfl);(case hg => rfl);(case hr => first|(go_simp;done)|(go_simp;rfl));intro b_b hg w64 hbox hb;have a_3:=a_a.mk (hbox);have h_L:=a_a.mk ((by rw [hg];exact (a_g (by repeat (first|(with_reducible first|exact HB.out|apply a_c|apply a_b|apply a_d|refine a_e ?_ a_6.out)|exact HB.out))) : w.heap.size ≤ b_b));have c_f:=a_a.mk ((by rw [hg];exact (a_g (by repeat (first|(with_reducible first|exact HB.out|apply a_c|apply a_b|apply a_d|refine a_e ?_ a_6.out)|exact HB.out))) : w.heap.size ≤ b_b));have b_n:=a_a.mk ((by rw [hg];exact Nat.ne_of_lt (a_M (bup_ a_Y.out)) : b_s ≠ b_b));have b_8:=a_a.mk ((by rw [hg];exact Nat.ne_of_gt (a_M (bup_ a_Y.out)) : b_b ≠ b_s));replace a_2:=a_a.mk (Kd.a_C (rup_ a_2.out) hb);replace a_Y:=a_a.mk (a_p (bup_ a_Y.out) hb);replace HB:=a_a.mk (a_i (by repeat (first|(with_reducible first|exact HB.out|apply a_c|apply a_b|apply a_d|refine a_e ?_ a_6.out)|exact HB.out)) hb);clear hb hbox hg;obtain ⟨Ao65,co65,eo65⟩:=Kd.a_V a_2.out;subst eo65;have n_N:=b_8.out;have n_9:=b_n.out;have i_t : w64.cell? ⟨b_b,0,none⟩ = some (.slice none 0 0):=(a_m a_3.out 0).trans rfl;have i_K:=a_j a_3.out 0)|((with_reducible refine a_y (f:=12) rfl ?_);refine a_U (some 33) rfl rfl Tryd.func12 (by kernel_rfl) rfl #[.agg #[.slice Ao65 t427.length co65]] rfl (by (try simp only [List.map_toArray,List.map_cons,List.map_nil]);first|done|rfl|(simp only [List.length_drop,List.length_take];rfl)) ?_;(with_reducible refine (a_z.calls k1 _ _ t427 t431 t434 _ ?side1 ?side2 A14.out).mono ?_);(case side1 => refine (Kd.a_v (e:=56) (base:=w.heap.size) (ok:=fun k_ => True) (n:=t427.length) (c:=co65) ?_).2.2;exact (by (with_reducible repeat (first|apply Kd.a_G|apply Kd.a_H|apply Kd.a_O));exact (Kd.a_Q (Kd.b_a (p:=⟨b_b,0,none⟩) (Kd.a_N a_2.out a_3.out (by decide)) (fun _ hk => hk.2) (.slice Ao65 t427.length co65)) (fun _ h_ => h_.1))));(case side2 => exact (Kd.a_v a_2.out).2.1);rintro e w68 ⟨v432,rfl,ho0,hb⟩;refine ⟨_,rfl,?_⟩;have c_h:=a_a.mk (Kd.a_S ho0 (a_g (by repeat (first|(with_reducible first|exact HB.out|apply a_c|apply a_b|apply a_d|refine a_e ?_ a_6.out|refine a_e ?_ c_f.out)|exact HB.out))));replace a_2:=a_a.mk (Kd.a_C (by (with_reducible repeat (first|apply Kd.a_G|apply Kd.a_H|apply Kd.a_O));exact (Kd.a_Q (Kd.b_a (p:=⟨b_b,0,none⟩) (Kd.a_N a_2.out a_3.out (by decide)) (fun _ hk => hk.2) (.slice Ao65 t427.length co65)) (fun _ h_ => h_.1))) hb);replace a_Y:=a_a.mk (a_p (g:=b_s) (o:=.cells #[.slice A425_0 ((b_B l0 x22_1).f0).length c425_0] 24 (0,0)) (by (with_reducible repeat (first|refine a_l ?_ _|refine a_o ?_|refine a_k ?_ _));refine a_9 ?_ b_n.out _;(with_reducible repeat (first|refine a_l ?_ _|refine a_o ?_|refine a_k ?_ _));exact a_Y.out) hb);replace a_3:=a_a.mk (a_p (g:=b_b) (o:=.cells #[.slice Ao65 t427.length co65] 24 (0,0)) (by (with_reducible repeat (first|refine a_l ?_ _|refine a_o ?_|refine a_k ?_ _));refine a_R (cs:=#[.slice none 0 0]) ?_ 0 _ rfl;(with_reducible repeat (first|refine a_l ?_ _|refine a_o ?_|refine a_k ?_ _));exact a_3.out) hb);replace HB:=a_a.mk (a_i (by repeat (first|(with_reducible first|exact HB.out|apply a_c|apply a_b|apply a_d|refine a_e ?_ a_6.out|refine a_e ?_ c_f.out)|exact HB.out)) hb);(try clear hb);(try clear hb2);(try clear hk);(try clear hi);(try clear ho0);have i_u : w68.cell? ⟨b_b,0,none⟩ = some (.slice Ao65 t427.length co65):=(a_m a_3.out 0).trans rfl;have i_L:=a_j a_3.out 0)|((with_reducible refine a_y (f:=16) rfl ?_);refine a_U (some 37) rfl rfl Tryd.func16 (by kernel_rfl) rfl #[.agg #[.slice Ao65 t427.length co65]] rfl (by (try simp only [List.map_toArray,List.map_cons,List.map_nil]);first|done|rfl|(simp only [List.length_drop,List.length_take];rfl)) ?_;(with_reducible refine (a_n.calls k1 _ _ t427 false _ ?side1 ?side2 A15.out).mono ?_);(case side1 => repeat (first|exact (Kd.a_v a_2.out).2.2|(with_reducible refine Kd.a_I ?_ _)|(with_reducible refine Kd.a_J ?_ _)|(with_reducible refine Kd.a_T ?_)));(case side2 => exact (Kd.a_v a_2.out).2.1);rintro e w70 ⟨rfl,hb⟩;refine ⟨_,rfl,?_⟩;replace a_2:=a_a.mk (Kd.a_C (rup_ a_2.out) hb);replace c_h:=a_a.mk (Kd.a_C (rup_ c_h.out) hb);replace a_Y:=a_a.mk (a_p (bup_ a_Y.out) hb);replace a_3:=a_a.mk (a_p (bup_ a_3.out) hb);replace HB:=a_a.mk (a_i (by repeat (first|(with_reducible first|exact HB.out|apply a_c|apply a_b|apply a_d|refine a_e ?_ a_6.out|refine a_e ?_ c_f.out)|exact HB.out)) hb);(try clear hb);(try clear hb2);(try clear hk);(try clear hi);obtain ⟨Ao71,co71,eo71⟩:=Kd.a_V c_h.out;subst eo71))
      go_roundg k1
      case measure => have:=HK1.out;omega
      case rel => exact ⟨(wrap64 (x22_1 + 1)),(by first|rfl|(simp;done)|(simp [*];done)),H',⟨by have:=HK1.out;omega⟩,⟨by repeat (first|(with_reducible first|exact HB.out|apply a_c|apply a_b|apply a_d|refine a_e ?_ a_6.out|refine a_e ?_ c_f.out)|exact HB.out)⟩⟩
     rw [if_neg c60] at H
     have c60b0 : ((t431.length : Int) == 0) = false:=beq_eq_false_iff_ne.mpr c60
     have c60b1 : ((t431.length : Int) != 0) = true:=bne_iff_ne.mpr c60
     have c60b2 : ¬ (t431 = []):=fun h_ => c60 (by rw [h_];rfl)
     obtain rfl:=Option.some.inj H
     have p425 : 0 ≤ (x22_1 : Int):=of_decide_eq_true (by first|(with_reducible assumption)|assumption)
     have q425 : x22_1 < (l0.length : Int):=of_decide_eq_true (by first|(with_reducible assumption)|assumption)
     obtain ⟨ad425,A425_0,c425_0,e425,b_d,b_K,b_J⟩:=e_J HR0.out x22_1 p425 q425
     cases e425
     replace b_d:=(HB.out.cell (World.block_lt_of_cell? w _ b_d)).trans b_d
     have c_C:=a_a.mk b_J
     have c_B:=a_a.mk b_K
     clear b_J b_K
     replace p425:=eq_true p425
     replace q425:=eq_true q425
     go_wp2_with (first|((with_reducible refine a_B (N:=6) rfl ?_);(try (refine a_D (by rfl) ?_;dsimp only));refine a_A ?hg (N:=6) ?hd (cs:=#[.slice none 0 0]) (t:=24) ?hr ?_;(case hd => rfl);(case hg => rfl);(case hr => first|(go_simp;done)|(go_simp;rfl));intro b_s hg w72 hbox hb;have a_Y:=a_a.mk (hbox);have h_p:=a_a.mk ((by rw [hg];exact (a_g (lup_ HB.out)) : w.heap.size ≤ b_s));have a_6:=a_a.mk ((by rw [hg];exact (a_g (lup_ HB.out)) : w.heap.size ≤ b_s));replace HB:=a_a.mk (a_i (lup_ HB.out) hb);clear hb hbox hg;have i_v : w72.cell? ⟨b_s,0,none⟩ = some (.slice none 0 0):=(a_m a_Y.out 0).trans rfl;have i_M:=a_j a_Y.out 0)|((with_reducible refine a_y (f:=11) rfl ?_);refine a_U (some 30) rfl rfl Tryd.func11 (by kernel_rfl) rfl #[.agg #[.slice A425_0 ((b_B l0 x22_1).f0).length c425_0]] rfl (by (try simp only [List.map_toArray,List.map_cons,List.map_nil]);first|done|rfl|(simp only [List.length_drop,List.length_take];rfl)) ?_;(with_reducible refine (a_W.calls _ _ ((b_B l0 x22_1).f0) t427 _ ?side1 ?side2 A13.out).mono ?_);(case side1 => exact Kd.a_P c_C.out (by repeat (first|(with_reducible first|exact HB.out|apply a_c|apply a_b|apply a_d|refine a_e ?_ a_6.out)|exact HB.out)));(case side2 => exact c_B.out);rintro e w74 ⟨v428,rfl,ho0,hb⟩;refine ⟨_,rfl,?_⟩;have a_2:=a_a.mk (Kd.a_S ho0 (a_g (by repeat (first|(with_reducible first|exact HB.out|apply a_c|apply a_b|apply a_d|refine a_e ?_ a_6.out)|exact HB.out))));replace a_Y:=a_a.mk (a_p (g:=b_s) (o:=.cells #[.slice A425_0 ((b_B l0 x22_1).f0).length c425_0] 24 (0,0)) (by (with_reducible repeat (first|refine a_l ?_ _|refine a_o ?_|refine a_k ?_ _));refine a_R (cs:=#[.slice none 0 0]) ?_ 0 _ rfl;(with_reducible repeat (first|refine a_l ?_ _|refine a_o ?_|refine a_k ?_ _));exact a_Y.out) hb);replace HB:=a_a.mk (a_i (by repeat (first|(with_reducible first|exact HB.out|apply a_c|apply a_b|apply a_d|refine a_e ?_ a_6.out)|exact HB.out)) hb);(try clear hb);(try clear hb2);(try clear hk);(try clear hi);(try clear ho0))|((with_reducible refine a_B (N:=7) rfl ?_);(try (refine a_D (by rfl) ?_;dsimp only));refine a_A ?hg (N:=7) ?hd (cs:=#[.slice none 0 0]) (t:=24) ?hr ?_;(case hd => rfl);(case hg => rfl);(case hr => first|(go_simp;done)|(go_simp;rfl));intro b_b hg w75 hbox hb;have a_3:=a_a.mk (hbox);have h_L:=a_a.mk ((by rw [hg];exact (a_g (by repeat (first|(with_reducible first|exact HB.out|apply a_c|apply a_b|apply a_d|refine a_e ?_ a_6.out)|exact HB.out))) : w.heap.size ≤ b_b));have c_f:=a_a.mk ((by rw [hg];exact (a_g (by repeat (first|(with_reducible first|exact HB.out|apply a_c|apply a_b|apply a_d|refine a_e ?_ a_6.out)|exact HB.out))) : w.heap.size ≤ b_b));have b_n:=a_a.mk ((by rw [hg];exact Nat.ne_of_lt (a_M (bup_ a_Y.out)) : b_s ≠ b_b));have b_8:=a_a.mk ((by rw [hg];exact Nat.ne_of_gt (a_M (bup_ a_Y.out)) : b_b ≠ b_s));replace a_2:=a_a.mk (Kd.a_C (rup_ a_2.out) hb);replace a_Y:=a_a.mk (a_p (bup_ a_Y.out) hb);replace HB:=a_a.mk (a_i (by repeat (first|(with_reducible first|exact HB.out|apply a_c|apply a_b|apply a_d|refine a_e ?_ a_6.out)|exact HB.out)) hb);clear hb hbox hg;obtain ⟨Ao76,co76,eo76⟩:=Kd.a_V a_2.out;subst eo76;have n_O:=b_8.out;have o_a:=b_n.out;have i_w : w75.cell? ⟨b_b,0,none⟩ = some (.slice none 0 0):=(a_m a_3.out 0).trans rfl;have i_N:=a_j a_3.out 0)|((with_reducible refine a_y (f:=12) rfl ?_);refine a_U (some 33) rfl rfl Tryd.func12 (by kernel_rfl) rfl #[.agg #[.slice Ao76 t427.length co76]] rfl (by (try simp only [List.map_toArray,List.map_cons,List.map_nil]);first|done|rfl|(simp only [List.length_drop,List.length_take];rfl)) ?_;(with_reducible refine (a_z.calls k1 _ _ t427 t431 t434 _ ?side1 ?side2 A14.out).mono ?_);(case side1 => refine (Kd.a_v (e:=56) (base:=w.heap.size) (ok:=fun k_ => True) (n:=t427.length) (c:=co76) ?_).2.2;exact (by (with_reducible repeat (first|apply Kd.a_G|apply Kd.a_H|apply Kd.a_O));exact (Kd.a_Q (Kd.b_a (p:=⟨b_b,0,none⟩) (Kd.a_N a_2.out a_3.out (by decide)) (fun _ hk => hk.2) (.slice Ao76 t427.length co76)) (fun _ h_ => h_.1))));(case side2 => exact (Kd.a_v a_2.out).2.1);rintro e w79 ⟨v432,rfl,ho0,hb⟩;refine ⟨_,rfl,?_⟩;have c_h:=a_a.mk (Kd.a_S ho0 (a_g (by repeat (first|(with_reducible first|exact HB.out|apply a_c|apply a_b|apply a_d|refine a_e ?_ a_6.out|refine a_e ?_ c_f.out)|exact HB.out))));replace a_2:=a_a.mk (Kd.a_C (by (with_reducible repeat (first|apply Kd.a_G|apply Kd.a_H|apply Kd.a_O));exact (Kd.a_Q (Kd.b_a (p:=⟨b_b,0,none⟩) (Kd.a_N a_2.out a_3.out (by decide)) (fun _ hk => hk.2) (.slice Ao76 t427.length co76)) (fun _ h_ => h_.1))) hb);replace a_Y:=a_a.mk (a_p (g:=b_s) (o:=.cells #[.slice A425_0 ((b_B l0 x22_1).f0).length c425_0] 24 (0,0)) (by (with_reducible repeat (first|refine a_l ?_ _|refine a_o ?_|refine a_k ?_ _));refine a_9 ?_ b_n.out _;(with_reducible repeat (first|refine a_l ?_ _|refine a_o ?_|refine a_k ?_ _));exact a_Y.out) hb);replace a_3:=a_a.mk (a_p (g:=b_b) (o:=.cells #[.slice Ao76 t427.length co76] 24 (0,0)) (by (with_reducible repeat (first|refine a_l ?_ _|refine a_o ?_|refine a_k ?_ _));refine a_R (cs:=#[.slice none 0 0]) ?_ 0 _ rfl;(with_reducible repeat (first|refine a_l ?_ _|refine a_o ?_|refine a_k ?_ _));exact a_3.out) hb);replace HB:=a_a.mk (a_i (by repeat (first|(with_reducible first|exact HB.out|apply a_c|apply a_b|apply a_d|refine a_e ?_ a_6.out|refine a_e ?_ c_f.out)|exact HB.out)) hb);(try clear hb);(try clear hb2);(try clear hk);(try clear hi);(try clear ho0);have i_x : w79.cell? ⟨b_b,0,none⟩ = some (.slice Ao76 t427.length co76):=(a_m a_3.out 0).trans rfl;have i_O:=a_j a_3.out 0)|((with_reducible refine a_y (f:=16) rfl ?_);refine a_U (some 37) rfl rfl Tryd.func16 (by kernel_rfl) rfl #[.agg #[.slice Ao76 t427.length co76]] rfl (by (try simp only [List.map_toArray,List.map_cons,List.map_nil]);first|done|rfl|(simp only [List.length_drop,List.length_take];rfl)) ?_;(with_reducible refine (a_n.calls k1 _ _ t427 false _ ?side1 ?side2 A15.out).mono ?_);(case side1 => repeat (first|exact (Kd.a_v a_2.out).2.2|(with_reducible refine Kd.a_I ?_ _)|(with_reducible refine Kd.a_J ?_ _)|(with_reducible refine Kd.a_T ?_)));(case side2 => exact (Kd.a_v a_2.out).2.1);rintro e w81 ⟨rfl,hb⟩;refine ⟨_,rfl,?_⟩;replace a_2:=a_a.mk (Kd.a_C (rup_ a_2.out) hb);replace c_h:=a_a.mk (Kd.a_C (rup_ c_h.out) hb);replace a_Y:=a_a.mk (a_p (bup_ a_Y.out) hb);replace a_3:=a_a.mk (a_p (bup_ a_3.out) hb);replace HB:=a_a.mk (a_i (by repeat (first|(with_reducible first|exact HB.out|apply a_c|apply a_b|apply a_d|refine a_e ?_ a_6.out|refine a_e ?_ c_f.out)|exact HB.out)) hb);(try clear hb);(try clear hb2);(try clear hk);(try clear hi);obtain ⟨Ao82,co82,eo82⟩:=Kd.a_V c_h.out;subst eo82))
     go_ret
     exact ⟨by first|rfl|(simp [a_r,a_s] <;> rfl)|(simp [*, a_r,a_s] <;> rfl),by repeat (first|(with_reducible first|exact HB.out|apply a_c|apply a_b|apply a_d|refine a_e ?_ a_6.out|refine a_e ?_ c_f.out)|exact HB.out)⟩
    subst c16
    have H1 : (if t434 = 0 then ((a_q.f k1 t427).bind fun t436 => ((bytes_Equal.f t431 t436).bind fun t439 => (if t439 = true then (a_f.l0 k1 l1 l0 (l0.length : Int) (wrap64 (x22_1 + 1))) else (some false)))) else (some false)) = some r:=by rw [if_pos rfl] at H;exact H
    clear H
    have H:=H1
    clear H1
    by_cases c17 : t434 = 0
    rotate_left
    ·rw [if_neg c17] at H
     have c17b0 : (t434 == 0) = false:=beq_eq_false_iff_ne.mpr c17
     have c17b1 : (t434 != 0) = true:=bne_iff_ne.mpr c17
     obtain rfl:=Option.some.inj H
     have p425 : 0 ≤ (x22_1 : Int):=of_decide_eq_true (by first|(with_reducible assumption)|assumption)
     have q425 : x22_1 < (l0.length : Int):=of_decide_eq_true (by first|(with_reducible assumption)|assumption)
     obtain ⟨ad425,A425_0,c425_0,e425,b_d,b_K,b_J⟩:=e_J HR0.out x22_1 p425 q425
     cases e425
     replace b_d:=(HB.out.cell (World.block_lt_of_cell? w _ b_d)).trans b_d
     have c_C:=a_a.mk b_J
     have c_B:=a_a.mk b_K
     clear b_J b_K
     replace p425:=eq_true p425
     replace q425:=eq_true q425
     go_wp2_with (first|((with_reducible refine a_B (N:=6) rfl ?_);(try (refine a_D (by rfl) ?_;dsimp only));refine a_A ?hg (N:=6) ?hd (cs:=#[.slice none 0 0]) (t:=24) ?hr ?_;(case hd => rfl);(case hg => rfl);(case hr => first|(go_simp;done)|(go_simp;rfl));intro b_s hg w49 hbox hb;have a_Y:=a_a.mk (hbox);have h_p:=a_a.mk ((by rw [hg];exact (a_g (lup_ HB.out)) : w.heap.size ≤ b_s));have a_6:=a_a.mk ((by rw [hg];exact (a_g (lup_ HB.out)) : w.heap.size ≤ b_s));replace HB:=a_a.mk (a_i (lup_ HB.out) hb);clear hb hbox hg;have g_G : w49.cell? ⟨b_s,0,none⟩ = some (.slice none 0 0):=(a_m a_Y.out 0).trans rfl;have g_S:=a_j a_Y.out 0)|((with_reducible refine a_y (f:=11) rfl ?_);refine a_U (some 30) rfl rfl Tryd.func11 (by kernel_rfl) rfl #[.agg #[.slice A425_0 ((b_B l0 x22_1).f0).length c425_0]] rfl (by (try simp only [List.map_toArray,List.map_cons,List.map_nil]);first|done|rfl|(simp only [List.length_drop,List.length_take];rfl)) ?_;(with_reducible refine (a_W.calls _ _ ((b_B l0 x22_1).f0) t427 _ ?side1 ?side2 A13.out).mono ?_);(case side1 => exact Kd.a_P c_C.out (by repeat (first|(with_reducible first|exact HB.out|apply a_c|apply a_b|apply a_d|refine a_e ?_ a_6.out)|exact HB.out)));(case side2 => exact c_B.out);rintro e w51 ⟨v428,rfl,ho0,hb⟩;refine ⟨_,rfl,?_⟩;have a_2:=a_a.mk (Kd.a_S ho0 (a_g (by repeat (first|(with_reducible first|exact HB.out|apply a_c|apply a_b|apply a_d|refine a_e ?_ a_6.out)|exact HB.out))));replace a_Y:=a_a.mk (a_p (g:=b_s) (o:=.cells #[.slice A425_0 ((b_B l0 x22_1).f0).length c425_0] 24 (0,0)) (by (with_reducible repeat (first|refine a_l ?_ _|refine a_o ?_|refine a_k ?_ _));refine a_R (cs:=#[.slice none 0 0]) ?_ 0 _ rfl;(with_reducible repeat (first|refine a_l ?_ _|refine a_o ?_|refine a_k ?_ _));exact a_Y.out) hb);replace HB:=a_a.mk (a_i (by repeat (first|(with_reducible first|exact HB.out|apply a_c|apply a_b|apply a_d|refine a_e ?_ a_6.out)|exact HB.out)) hb);(try clear hb);(try clear hb2);(try clear hk);(try clear hi);(try clear ho0))|((with_reducible refine a_B (N:=7) rfl ?_);(try (refine a_D (by rfl) ?_;dsimp only));refine a_A ?hg (N:=7) ?hd (cs:=#[.slice none 0 0]) (t:=24) ?hr ?_;(case hd => rfl);(case hg => rfl);(case hr => first|(go_simp;done)|(go_simp;rfl));intro b_b hg w52 hbox hb;have a_3:=a_a.mk (hbox);have h_L:=a_a.mk ((by rw [hg];exact (a_g (by repeat (first|(with_reducible first|exact HB.out|apply a_c|apply a_b|apply a_d|refine a_e ?_ a_6.out)|exact HB.out))) : w.heap.size ≤ b_b));have c_f:=a_a.mk ((by rw [hg];exact (a_g (by repeat (first|(with_reducible first|exact HB.out|apply a_c|apply a_b|apply a_d|refine a_e ?_ a_6.out)|exact HB.out))) : w.heap.size ≤ b_b));have b_n:=a_a.mk ((by rw [hg];exact Nat.ne_of_lt (a_M (bup_ a_Y.out)) : b_s ≠ b_b));have b_8:=a_a.mk ((by rw [hg];exact Nat.ne_of_gt (a_M (bup_ a_Y.out)) : b_b ≠ b_s));replace a_2:=a_a.mk (Kd.a_C (rup_ a_2.out) hb);replace a_Y:=a_a.mk (a_p (bup_ a_Y.out) hb);replace HB:=a_a.mk (a_i (by repeat (first|(with_reducible first|exact HB.out|apply a_c|apply a_b|apply a_d|refine a_e ?_ a_6.out)|exact HB.out)) hb);clear hb hbox hg;obtain ⟨Ao53,co53,eo53⟩:=Kd.a_V a_2.out;subst eo53;have n_M:=b_8.out;have n_8:=b_n.out;have g_H : w52.cell? ⟨b_b,0,none⟩ = some (.slice none 0 0):=(a_m a_3.out 0).trans rfl;have g_T:=a_j a_3.out 0)|((with_reducible refine a_y (f:=12) rfl ?_);refine a_U (some 33) rfl rfl Tryd.func12 (by kernel_rfl) rfl #[.agg #[.slice Ao53 t427.length co53]] rfl (by (try simp only [List.map_toArray,List.map_cons,List.map_nil]);first|done|rfl|(simp only [List.length_drop,List.length_take];rfl)) ?_;(with_reducible refine (a_z.calls k1 _ _ t427 t431 t434 _ ?side1 ?side2 A14.out).mono ?_);(case side1 => refine (Kd.a_v (e:=56) (base:=w.heap.size) (ok:=fun k_ => True) (n:=t427.length) (c:=co53) ?_).2.2;exact (by (with_reducible repeat (first|apply Kd.a_G|apply Kd.a_H|apply Kd.a_O));exact (Kd.a_Q (Kd.b_a (p:=⟨b_b,0,none⟩) (Kd.a_N a_2.out a_3.out (by decide)) (fun _ hk => hk.2) (.slice Ao53 t427.length co53)) (fun _ h_ => h_.1))));(case side2 => exact (Kd.a_v a_2.out).2.1);rintro e w56 ⟨v432,rfl,ho0,hb⟩;refine ⟨_,rfl,?_⟩;have c_h:=a_a.mk (Kd.a_S ho0 (a_g (by repeat (first|(with_reducible first|exact HB.out|apply a_c|apply a_b|apply a_d|refine a_e ?_ a_6.out|refine a_e ?_ c_f.out)|exact HB.out))));replace a_2:=a_a.mk (Kd.a_C (by (with_reducible repeat (first|apply Kd.a_G|apply Kd.a_H|apply Kd.a_O));exact (Kd.a_Q (Kd.b_a (p:=⟨b_b,0,none⟩) (Kd.a_N a_2.out a_3.out (by decide)) (fun _ hk => hk.2) (.slice Ao53 t427.length co53)) (fun _ h_ => h_.1))) hb);replace a_Y:=a_a.mk (a_p (g:=b_s) (o:=.cells #[.slice A425_0 ((b_B l0 x22_1).f0).length c425_0] 24 (0,0)) (by (with_reducible repeat (first|refine a_l ?_ _|refine a_o ?_|refine a_k ?_ _));refine a_9 ?_ b_n.out _;(with_reducible repeat (first|refine a_l ?_ _|refine a_o ?_|refine a_k ?_ _));exact a_Y.out) hb);replace a_3:=a_a.mk (a_p (g:=b_b) (o:=.cells #[.slice Ao53 t427.length co53] 24 (0,0)) (by (with_reducible repeat (first|refine a_l ?_ _|refine a_o ?_|refine a_k ?_ _));refine a_R (cs:=#[.slice none 0 0]) ?_ 0 _ rfl;(with_reducible repeat (first|refine a_l ?_ _|refine a_o ?_|refine a_k ?_ _));exact a_3.out) hb);replace HB:=a_a.mk (a_i (by repeat (first|(with_reducible first|exact HB.out|apply a_c|apply a_b|apply a_d|refine a_e ?_ a_6.out|refine a_e ?_ c_f.out)|exact HB.out)) hb);(try clear hb);(try clear hb2);(try clear hk);(try clear hi);(try clear ho0);have g_I : w56.cell? ⟨b_b,0,none⟩ = some (.slice Ao53 t427.length co53):=(a_m a_3.out 0).trans rfl;have g_U:=a_j a_3.out 0)|((with_reducible refine a_y (f:=16) rfl ?_);refine a_U (some 37) rfl rfl Tryd.func16 (by kernel_rfl) rfl #[.agg #[.slice Ao53 t427.length co53]] rfl (by (try simp only [List.map_toArray,List.map_cons,List.map_nil]);first|done|rfl|(simp only [List.length_drop,List.length_take];rfl)) ?_;(with_reducible refine (a_n.calls k1 _ _ t427 true _ ?side1 ?side2 A15.out).mono ?_);(case side1 => repeat (first|exact (Kd.a_v a_2.out).2.2|(with_reducible refine Kd.a_I ?_ _)|(with_reducible refine Kd.a_J ?_ _)|(with_reducible refine Kd.a_T ?_)));(case side2 => exact (Kd.a_v a_2.out).2.1);rintro e w58 ⟨rfl,hb⟩;refine ⟨_,rfl,?_⟩;replace a_2:=a_a.mk (Kd.a_C (rup_ a_2.out) hb);replace c_h:=a_a.mk (Kd.a_C (rup_ c_h.out) hb);replace a_Y:=a_a.mk (a_p (bup_ a_Y.out) hb);replace a_3:=a_a.mk (a_p (bup_ a_3.out) hb);replace HB:=a_a.mk (a_i (by repeat (first|(with_reducible first|exact HB.out|apply a_c|apply a_b|apply a_d|refine a_e ?_ a_6.out|refine a_e ?_ c_f.out)|exact HB.out)) hb);(try clear hb);(try clear hb2);(try clear hk);(try clear hi)))
     go_ret
     exact ⟨by first|rfl|(simp [a_r,a_s] <;> rfl)|(simp [*, a_r,a_s] <;> rfl),by repeat (first|(with_reducible first|exact HB.out|apply a_c|apply a_b|apply a_d|refine a_e ?_ a_6.out|refine a_e ?_ c_f.out)|exact HB.out)⟩
    rw [if_pos c17] at H
    have c17b0 : (t434 == 0) = true:=beq_iff_eq.mpr c17
    have c17b1 : (t434 != 0) = false:=bne_eq_false_iff_eq.mpr c17
    clear c17
    replace H:=Option.bind_eq_some_iff.mp H
    obtain ⟨t436,A180,H⟩:=H
    replace H : ((bytes_Equal.f t431 t436).bind fun t439 => (if t439 = true then (a_f.l0 k1 l1 l0 (l0.length : Int) (wrap64 (x22_1 + 1))) else (some false))) = some r:=H
    have A18:=a_a.mk A180
    clear A180
    replace H:=Option.bind_eq_some_iff.mp H
    obtain ⟨t439,A190,H⟩:=H
    replace H : (if t439 = true then (a_f.l0 k1 l1 l0 (l0.length : Int) (wrap64 (x22_1 + 1))) else (some false)) = some r:=H
    have A19:=a_a.mk A190
    clear A190
    by_cases c20 : t439 = true
    ·subst c20
     have H1 : (a_f.l0 k1 l1 l0 (l0.length : Int) (wrap64 (x22_1 + 1))) = some r:=by rw [if_pos rfl] at H;exact H
     clear H
     have H:=H1
     clear H1
     have H':=a_a.mk H
     clear H
     have p425 : 0 ≤ (x22_1 : Int):=of_decide_eq_true (by first|(with_reducible assumption)|assumption)
     have q425 : x22_1 < (l0.length : Int):=of_decide_eq_true (by first|(with_reducible assumption)|assumption)
     obtain ⟨ad425,A425_0,c425_0,e425,b_d,b_K,b_J⟩:=e_J HR0.out x22_1 p425 q425
     cases e425
     replace b_d:=(HB.out.cell (World.block_lt_of_cell? w _ b_d)).trans b_d
     have c_C:=a_a.mk b_J
     have c_B:=a_a.mk b_K
     clear b_J b_K
     replace p425:=eq_true p425
     replace q425:=eq_true q425
     go_wp2_with (first|((with_reducible refine a_B (N:=6) rfl ?_);(try (refine a_D (by rfl) ?_;dsimp only));refine a_A ?hg (N:=6) ?hd (cs:=#[.slice none 0 0]) (t:=24) ?hr ?_;(case hd => rfl);(case hg => rfl);(case hr => first|(go_simp;done)|(go_simp;rfl));intro b_s hg w21 hbox hb;have a_Y:=a_a.mk (hbox);have h_p:=a_a.mk ((by rw [hg];exact (a_g (lup_ HB.out)) : w.heap.size ≤ b_s));have a_6:=a_a.mk ((by rw [hg];exact (a_g (lup_ HB.out)) : w.heap.size ≤ b_s));replace HB:=a_a.mk (a_i (lup_ HB.out) hb);clear hb hbox hg;have e_N : w21.cell? ⟨b_s,0,none⟩ = some (.slice none 0 0):=(a_m a_Y.out 0).trans rfl;have e_Q:=a_j a_Y.out 0)|((with_reducible refine a_y (f:=11) rfl ?_);refine a_U (some 30) rfl rfl Tryd.func11 (by kernel_rfl) rfl #[.agg #[.slice A425_0 ((b_B l0 x22_1).f0).length c425_0]] rfl (by (try simp only [List.map_toArray,List.map_cons,List.map_nil]);first|done|rfl|(simp only [List.length_drop,List.length_take];rfl)) ?_;(with_reducible refine (a_W.calls _ _ ((b_B l0 x22_1).f0) t427 _ ?side1 ?side2 A13.out).mono ?_);(case side1 => exact Kd.a_P c_C.out (by repeat (first|(with_reducible first|exact HB.out|apply a_c|apply a_b|apply a_d|refine a_e ?_ a_6.out)|exact HB.out)));(case side2 => exact c_B.out);rintro e w23 ⟨v428,rfl,ho0,hb⟩;refine ⟨_,rfl,?_⟩;have a_2:=a_a.mk (Kd.a_S ho0 (a_g (by repeat (first|(with_reducible first|exact HB.out|apply a_c|apply a_b|apply a_d|refine a_e ?_ a_6.out)|exact HB.out))));replace a_Y:=a_a.mk (a_p (g:=b_s) (o:=.cells #[.slice A425_0 ((b_B l0 x22_1).f0).length c425_0] 24 (0,0)) (by (with_reducible repeat (first|refine a_l ?_ _|refine a_o ?_|refine a_k ?_ _));refine a_R (cs:=#[.slice none 0 0]) ?_ 0 _ rfl;(with_reducible repeat (first|refine a_l ?_ _|refine a_o ?_|refine a_k ?_ _));exact a_Y.out) hb);replace HB:=a_a.mk (a_i (by repeat (first|(with_reducible first|exact HB.out|apply a_c|apply a_b|apply a_d|refine a_e ?_ a_6.out)|exact HB.out)) hb);(try clear hb);(try clear hb2);(try clear hk);(try clear hi);(try clear ho0))|((with_reducible refine a_B (N:=7) rfl ?_);(try (refine a_D (by rfl) ?_;dsimp only));refine a_A ?hg (N:=7) ?hd (cs:=#[.slice none 0 0]) (t:=24) ?hr ?_;(case hd => rfl);(case hg => rfl);(case hr => first|(go_simp;done)|(go_simp;rfl));intro b_b hg w24 hbox hb;have a_3:=a_a.mk (hbox);have h_L:=a_a.mk ((by rw [hg];exact (a_g (by repeat (first|(with_reducible first|exact HB.out|apply a_c|apply a_b|apply a_d|refine a_e ?_ a_6.out)|exact HB.out))) : w.heap.size ≤ b_b));have c_f:=a_a.mk ((by rw [hg];exact (a_g (by repeat (first|(with_reducible first|exact HB.out|apply a_c|apply a_b|apply a_d|refine a_e ?_ a_6.out)|exact HB.out))) : w.heap.size ≤ b_b));have b_n:=a_a.mk ((by rw [hg];exact Nat.ne_of_lt (a_M (bup_ a_Y.out)) : b_s ≠ b_b));have b_8:=a_a.mk ((by rw [hg];exact Nat.ne_of_gt (a_M (bup_ a_Y.out)) : b_b ≠ b_s));replace a_2:=a_a.mk (Kd.a_C (rup_ a_2.out) hb);replace a_Y:=a_a.mk (a_p (bup_ a_Y.out) hb);replace HB:=a_a.mk (a_i (by repeat (first|(with_reducible first|exact HB.out|apply a_c|apply a_b|apply a_d|refine a_e ?_ a_6.out)|exact HB.out)) hb);clear hb hbox hg;obtain ⟨Ao25,co25,eo25⟩:=Kd.a_V a_2.out;subst eo25;have k_W:=b_8.out;have k_Y:=b_n.out;have e_O : w24.cell? ⟨b_b,0,none⟩ = some (.slice none 0 0):=(a_m a_3.out 0).trans rfl;have e_R:=a_j a_3.out 0)|((with_reducible refine a_y (f:=12) rfl ?_);refine a_U (some 33) rfl rfl Tryd.func12 (by kernel_rfl) rfl #[.agg #[.slice Ao25 t427.length co25]] rfl (by (try simp only [List.map_toArray,List.map_cons,List.map_nil]);first|done|rfl|(simp only [List.length_drop,List.length_take];rfl)) ?_;(with_reducible refine (a_z.calls k1 _ _ t427 t431 t434 _ ?side1 ?side2 A14.out).mono ?_);(case side1 => refine (Kd.a_v (e:=56) (base:=w.heap.size) (ok:=fun k_ => True) (n:=t427.length) (c:=co25) ?_).2.2;exact (by (with_reducible repeat (first|apply Kd.a_G|apply Kd.a_H|apply Kd.a_O));exact (Kd.a_Q (Kd.b_a (p:=⟨b_b,0,none⟩) (Kd.a_N a_2.out a_3.out (by decide)) (fun _ hk => hk.2) (.slice Ao25 t427.length co25)) (fun _ h_ => h_.1))));(case side2 => exact (Kd.a_v a_2.out).2.1);rintro e w28 ⟨v432,rfl,ho0,hb⟩;refine ⟨_,rfl,?_⟩;have c_h:=a_a.mk (Kd.a_S ho0 (a_g (by repeat (first|(with_reducible first|exact HB.out|apply a_c|apply a_b|apply a_d|refine a_e ?_ a_6.out|refine a_e ?_ c_f.out)|exact HB.out))));replace a_2:=a_a.mk (Kd.a_C (by (with_reducible repeat (first|apply Kd.a_G|apply Kd.a_H|apply Kd.a_O));exact (Kd.a_Q (Kd.b_a (p:=⟨b_b,0,none⟩) (Kd.a_N a_2.out a_3.out (by decide)) (fun _ hk => hk.2) (.slice Ao25 t427.length co25)) (fun _ h_ => h_.1))) hb);replace a_Y:=a_a.mk (a_p (g:=b_s) (o:=.cells #[.slice A425_0 ((b_B l0 x22_1).f0).length c425_0] 24 (0,0)) (by (with_reducible repeat (first|refine a_l ?_ _|refine a_o ?_|refine a_k ?_ _));refine a_9 ?_ b_n.out _;(with_reducible repeat (first|refine a_l ?_ _|refine a_o ?_|refine a_k ?_ _));exact a_Y.out) hb);replace a_3:=a_a.mk (a_p (g:=b_b) (o:=.cells #[.slice Ao25 t427.length co25] 24 (0,0)) (by (with_reducible repeat (first|refine a_l ?_ _|refine a_o ?_|refine a_k ?_ _));refine a_R (cs:=#[.slice none 0 0]) ?_ 0 _ rfl;(with_reducible repeat (first|refine a_l ?_ _|refine a_o ?_|refine a_k ?_ _));exact a_3.out) hb);replace HB:=a_a.mk (a_i (by repeat (first|(with_reducible first|exact HB.out|apply a_c|apply a_b|apply a_d|refine a_e ?_ a_6.out|refine a_e ?_ c_f.out)|exact HB.out)) hb);(try clear hb);(try clear hb2);(try clear hk);(try clear hi);(try clear ho0);have g_C : w28.cell? ⟨b_b,0,none⟩ = some (.slice Ao25 t427.length co25):=(a_m a_3.out 0).trans rfl;have g_O:=a_j a_3.out 0)|((with_reducible refine a_y (f:=16) rfl ?_);refine a_U (some 37) rfl rfl Tryd.func16 (by kernel_rfl) rfl #[.agg #[.slice Ao25 t427.length co25]] rfl (by (try simp only [List.map_toArray,List.map_cons,List.map_nil]);first|done|rfl|(simp only [List.length_drop,List.length_take];rfl)) ?_;(with_reducible refine (a_n.calls k1 _ _ t427 true _ ?side1 ?side2 A15.out).mono ?_);(case side1 => repeat (first|exact (Kd.a_v a_2.out).2.2|(with_reducible refine Kd.a_I ?_ _)|(with_reducible refine Kd.a_J ?_ _)|(with_reducible refine Kd.a_T ?_)));(case side2 => exact (Kd.a_v a_2.out).2.1);rintro e w30 ⟨rfl,hb⟩;refine ⟨_,rfl,?_⟩;replace a_2:=a_a.mk (Kd.a_C (rup_ a_2.out) hb);replace c_h:=a_a.mk (Kd.a_C (rup_ c_h.out) hb);replace a_Y:=a_a.mk (a_p (bup_ a_Y.out) hb);replace a_3:=a_a.mk (a_p (bup_ a_3.out) hb);replace HB:=a_a.mk (a_i (by repeat (first|(with_reducible first|exact HB.out|apply a_c|apply a_b|apply a_d|refine a_e ?_ a_6.out|refine a_e ?_ c_f.out)|exact HB.out)) hb);(try clear hb);(try clear hb2);(try clear hk);(try clear hi);have f_H : w30.cell? ⟨b_b,0,none⟩ = some (.slice Ao25 t427.length co25):=(a_m a_3.out 0).trans rfl;have f_L:=a_j a_3.out 0)|(go_at_call 35;(with_reducible refine (a_q.calls k1 _ _ t427 t436 _ ?side1 ?side2 A18.out).mono ?_);(case side1 => repeat (first|exact (Kd.a_v a_2.out).2.2|(with_reducible refine Kd.a_I ?_ _)|(with_reducible refine Kd.a_J ?_ _)|(with_reducible refine Kd.a_T ?_)));(case side2 => exact (Kd.a_v a_2.out).2.1);rintro e w32 ⟨v437,rfl,ho0,hb⟩;have g_r:=a_a.mk (Kd.a_S (Kd.d_A ho0 (Kd.R_lt (rup_ c_h.out))) (a_g (by repeat (first|(with_reducible first|exact HB.out|apply a_c|apply a_b|apply a_d|refine a_e ?_ a_6.out|refine a_e ?_ c_f.out)|exact HB.out))));replace a_2:=a_a.mk (Kd.a_C (rup_ a_2.out) hb);replace c_h:=a_a.mk (Kd.c_z (rup_ c_h.out) (Kd.d_z ho0) hb);replace a_Y:=a_a.mk (a_p (bup_ a_Y.out) hb);replace a_3:=a_a.mk (a_p (bup_ a_3.out) hb);replace HB:=a_a.mk (a_i (by repeat (first|(with_reducible first|exact HB.out|apply a_c|apply a_b|apply a_d|refine a_e ?_ a_6.out|refine a_e ?_ c_f.out)|exact HB.out)) hb);(try clear hb);(try clear hb2);(try clear hk);(try clear hi);(try clear ho0);obtain ⟨Ao33,co33,eo33⟩:=Kd.a_V c_h.out;subst eo33;obtain ⟨Ao34,co34,eo34⟩:=Kd.a_V g_r.out;subst eo34)|(go_at_call 15;(with_reducible refine (bytes_Equal.calls _ _ t431 _ _ t436 true _ ?side1 ?side2 ?side3 ?side4 A19.out).mono ?_);(case side1 => repeat (first|exact (Kd.a_v c_h.out).2.2|(with_reducible refine Kd.a_I ?_ _)|(with_reducible refine Kd.a_J ?_ _)|(with_reducible refine Kd.a_T ?_)));(case side2 => exact (Kd.a_v c_h.out).2.1);(case side3 => repeat (first|exact (Kd.a_v g_r.out).2.2|(with_reducible refine Kd.a_I ?_ _)|(with_reducible refine Kd.a_J ?_ _)|(with_reducible refine Kd.a_T ?_)));(case side4 => exact (Kd.a_v g_r.out).2.1);rintro e w' ⟨rfl,⟨nd,rfl⟩⟩))
     go_roundg k1
     case measure => have:=HK1.out;omega
     case rel => exact ⟨(wrap64 (x22_1 + 1)),(by first|rfl|(simp;done)|(simp [*];done)),H',⟨by have:=HK1.out;omega⟩,⟨by repeat (first|(with_reducible first|exact HB.out|apply a_c|apply a_b|apply a_d|refine a_e ?_ a_6.out|refine a_e ?_ c_f.out)|exact HB.out)⟩⟩
    replace c20:=Bool.eq_false_iff.mpr c20
    subst c20
    have H1 : (some false) = some r:=by rw [if_neg (show ¬ (false = true) by decide)] at H;exact H
    clear H
    have H:=H1
    clear H1
    obtain rfl:=Option.some.inj H
    have p425 : 0 ≤ (x22_1 : Int):=of_decide_eq_true (by first|(with_reducible assumption)|assumption)
    have q425 : x22_1 < (l0.length : Int):=of_decide_eq_true (by first|(with_reducible assumption)|assumption)
    obtain ⟨ad425,A425_0,c425_0,e425,b_d,b_K,b_J⟩:=e_J HR0.out x22_1 p425 q425
    cases e425
    replace b_d:=(HB.out.cell (World.block_lt_of_cell? w _ b_d)).trans b_d
    have c_C:=a_a.mk b_J
    have c_B:=a_a.mk b_K
    clear b_J b_K
    replace p425:=eq_true p425
    replace q425:=eq_true q425
    go_wp2_with (first|((with_reducible refine a_B (N:=6) rfl ?_);(try (refine a_D (by rfl) ?_;dsimp only));refine a_A ?hg (N:=6) ?hd (cs:=#[.slice none 0 0]) (t:=24) ?hr ?_;(case hd => rfl);(case hg => rfl);(case hr => first|(go_simp;done)|(go_simp;rfl));intro b_s hg w35 hbox hb;have a_Y:=a_a.mk (hbox);have h_p:=a_a.mk ((by rw [hg];exact (a_g (lup_ HB.out)) : w.heap.size ≤ b_s));have a_6:=a_a.mk ((by rw [hg];exact (a_g (lup_ HB.out)) : w.heap.size ≤ b_s));replace HB:=a_a.mk (a_i (lup_ HB.out) hb);clear hb hbox hg;have g_E : w35.cell? ⟨b_s,0,none⟩ = some (.slice none 0 0):=(a_m a_Y.out 0).trans rfl;have g_Q:=a_j a_Y.out 0)|((with_reducible refine a_y (f:=11) rfl ?_);refine a_U (some 30) rfl rfl Tryd.func11 (by kernel_rfl) rfl #[.agg #[.slice A425_0 ((b_B l0 x22_1).f0).length c425_0]] rfl (by (try simp only [List.map_toArray,List.map_cons,List.map_nil]);first|done|rfl|(simp only [List.length_drop,List.length_take];rfl)) ?_;(with_reducible refine (a_W.calls _ _ ((b_B l0 x22_1).f0) t427 _ ?side1 ?side2 A13.out).mono ?_);(case side1 => exact Kd.a_P c_C.out (by repeat (first|(with_reducible first|exact HB.out|apply a_c|apply a_b|apply a_d|refine a_e ?_ a_6.out)|exact HB.out)));(case side2 => exact c_B.out);rintro e w37 ⟨v428,rfl,ho0,hb⟩;refine ⟨_,rfl,?_⟩;have a_2:=a_a.mk (Kd.a_S ho0 (a_g (by repeat (first|(with_reducible first|exact HB.out|apply a_c|apply a_b|apply a_d|refine a_e ?_ a_6.out)|exact HB.out))));replace a_Y:=a_a.mk (a_p (g:=b_s) (o:=.cells #[.slice A425_0 ((b_B l0 x22_1).f0).length c425_0] 24 (0,0)) (by (with_reducible repeat (first|refine a_l ?_ _|refine a_o ?_|refine a_k ?_ _));refine a_R (cs:=#[.slice none 0 0]) ?_ 0 _ rfl;(with_reducible repeat (first|refine a_l ?_ _|refine a_o ?_|refine a_k ?_ _));exact a_Y.out) hb);replace HB:=a_a.mk (a_i (by repeat (first|(with_reducible first|exact HB.out|apply a_c|apply a_b|apply a_d|refine a_e ?_ a_6.out)|exact HB.out)) hb);(try clear hb);(try clear hb2);(try clear hk);(try clear hi);(try clear ho0))|((with_reducible refine a_B (N:=7) rfl ?_);(try (refine a_D (by rfl) ?_;dsimp only));refine a_A ?hg (N:=7) ?hd (cs:=#[.slice none 0 0]) (t:=24) ?hr ?_;(case hd => rfl);(case hg => rfl);(case hr => first|(go_simp;done)|(go_simp;rfl));intro b_b hg w38 hbox hb;have a_3:=a_a.mk (hbox);have h_L:=a_a.mk ((by rw [hg];exact (a_g (by repeat (first|(with_reducible first|exact HB.out|apply a_c|apply a_b|apply a_d|refine a_e ?_ a_6.out)|exact HB.out))) : w.heap.size ≤ b_b));have c_f:=a_a.mk ((by rw [hg];exact (a_g (by repeat (first|(with_reducible first|exact HB.out|apply a_c|apply a_b|apply a_d|refine a_e ?_ a_6.out)|exact HB.out))) : w.heap.size ≤ b_b));have b_n:=a_a.mk ((by rw [hg];exact Nat.ne_of_lt (a_M (bup_ a_Y.out)) : b_s ≠ b_b));have b_8:=a_a.mk ((by rw [hg];exact Nat.ne_of_gt (a_M (bup_ a_Y.out)) : b_b ≠ b_s));replace a_2:=a_a.mk (Kd.a_C (rup_ a_2.out) hb);replace a_Y:=a_a.mk (a_p (bup_ a_Y.out) hb);replace HB:=a_a.mk (a_i (by repeat (first|(with_reducible first|exact HB.out|apply a_c|apply a_b|apply a_d|refine a_e ?_ a_6.out)|exact HB.out)) hb);clear hb hbox hg;obtain ⟨Ao39,co39,eo39⟩:=Kd.a_V a_2.out;subst eo39;have m_P:=b_8.out;have m_V:=b_n.out;have e_P : w38.cell? ⟨b_b,0,none⟩ = some (.slice none 0 0):=(a_m a_3.out 0).trans rfl;have e_S:=a_j a_3.out 0)|((with_reducible refine a_y (f:=12) rfl ?_);refine a_U (some 33) rfl rfl Tryd.func12 (by kernel_rfl) rfl #[.agg #[.slice Ao39 t427.length co39]] rfl (by (try simp only [List.map_toArray,List.map_cons,List.map_nil]);first|done|rfl|(simp only [List.length_drop,List.length_take];rfl)) ?_;(with_reducible refine (a_z.calls k1 _ _ t427 t431 t434 _ ?side1 ?side2 A14.out).mono ?_);(case side1 => refine (Kd.a_v (e:=56) (base:=w.heap.size) (ok:=fun k_ => True) (n:=t427.length) (c:=co39) ?_).2.2;exact (by (with_reducible repeat (first|apply Kd.a_G|apply Kd.a_H|apply Kd.a_O));exact (Kd.a_Q (Kd.b_a (p:=⟨b_b,0,none⟩) (Kd.a_N a_2.out a_3.out (by decide)) (fun _ hk => hk.2) (.slice Ao39 t427.length co39)) (fun _ h_ => h_.1))));(case side2 => exact (Kd.a_v a_2.out).2.1);rintro e w42 ⟨v432,rfl,ho0,hb⟩;refine ⟨_,rfl,?_⟩;have c_h:=a_a.mk (Kd.a_S ho0 (a_g (by repeat (first|(with_reducible first|exact HB.out|apply a_c|apply a_b|apply a_d|refine a_e ?_ a_6.out|refine a_e ?_ c_f.out)|exact HB.out))));replace a_2:=a_a.mk (Kd.a_C (by (with_reducible repeat (first|apply Kd.a_G|apply Kd.a_H|apply Kd.a_O));exact (Kd.a_Q (Kd.b_a (p:=⟨b_b,0,none⟩) (Kd.a_N a_2.out a_3.out (by decide)) (fun _ hk => hk.2) (.slice Ao39 t427.length co39)) (fun _ h_ => h_.1))) hb);replace a_Y:=a_a.mk (a_p (g:=b_s) (o:=.cells #[.slice A425_0 ((b_B l0 x22_1).f0).length c425_0] 24 (0,0)) (by (with_reducible repeat (first|refine a_l ?_ _|refine a_o ?_|refine a_k ?_ _));refine a_9 ?_ b_n.out _;(with_reducible repeat (first|refine a_l ?_ _|refine a_o ?_|refine a_k ?_ _));exact a_Y.out) hb);replace a_3:=a_a.mk (a_p (g:=b_b) (o:=.cells #[.slice Ao39 t427.length co39] 24 (0,0)) (by (with_reducible repeat (first|refine a_l ?_ _|refine a_o ?_|refine a_k ?_ _));refine a_R (cs:=#[.slice none 0 0]) ?_ 0 _ rfl;(with_reducible repeat (first|refine a_l ?_ _|refine a_o ?_|refine a_k ?_ _));exact a_3.out) hb);replace HB:=a_a.mk (a_i (by repeat (first|(with_reducible first|exact HB.out|apply a_c|apply a_b|apply a_d|refine a_e ?_ a_6.out|refine a_e ?_ c_f.out)|exact HB.out)) hb);(try clear hb);(try clear hb2);(try clear hk);(try clear hi);(try clear ho0);have g_F : w42.cell? ⟨b_b,0,none⟩ = some (.slice Ao39 t427.length co39):=(a_m a_3.out 0).trans rfl;have g_R:=a_j a_3.out 0)|((with_reducible refine a_y (f:=16) rfl ?_);refine a_U (some 37) rfl rfl Tryd.func16 (by kernel_rfl) rfl #[.agg #[.slice Ao39 t427.length co39]] rfl (by (try simp only [List.map_toArray,List.map_cons,List.map_nil]);first|done|rfl|(simp only [List.length_drop,List.length_take];rfl)) ?_;(with_reducible refine (a_n.calls k1 _ _ t427 true _ ?side1 ?side2 A15.out).mono ?_);(case side1 => repeat (first|exact (Kd.a_v a_2.out).2.2|(with_reducible refine Kd.a_I ?_ _)|(with_reducible refine Kd.a_J ?_ _)|(with_reducible refine Kd.a_T ?_)));(case side2 => exact (Kd.a_v a_2.out).2.1);rintro e w44 ⟨rfl,hb⟩;refine ⟨_,rfl,?_⟩;replace a_2:=a_a.mk (Kd.a_C (rup_ a_2.out) hb);replace c_h:=a_a.mk (Kd.a_C (rup_ c_h.out) hb);replace a_Y:=a_a.mk (a_p (bup_ a_Y.out) hb);replace a_3:=a_a.mk (a_p (bup_ a_3.out) hb);replace HB:=a_a.mk (a_i (by repeat (first|(with_reducible first|exact HB.out|apply a_c|apply a_b|apply a_d|refine a_e ?_ a_6.out|refine a_e ?_ c_f.out)|exact HB.out)) hb);(try clear hb);(try clear hb2);(try clear hk);(try clear hi);have i_s : w44.cell? ⟨b_b,0,none⟩ = some (.slice Ao39 t427.length co39):=(a_m a_3.out 0).trans rfl;have i_J:=a_j a_3.out 0)|(go_at_call 35;(with_reducible refine (a_q.calls k1 _ _ t427 t436 _ ?side1 ?side2 A18.out).mono ?_);(case side1 => repeat (first|exact (Kd.a_v a_2.out).2.2|(with_reducible refine Kd.a_I ?_ _)|(with_reducible refine Kd.a_J ?_ _)|(with_reducible refine Kd.a_T ?_)));(case side2 => exact (Kd.a_v a_2.out).2.1);rintro e w46 ⟨v437,rfl,ho0,hb⟩;have g_r:=a_a.mk (Kd.a_S (Kd.d_A ho0 (Kd.R_lt (rup_ c_h.out))) (a_g (by repeat (first|(with_reducible first|exact HB.out|apply a_c|apply a_b|apply a_d|refine a_e ?_ a_6.out|refine a_e ?_ c_f.out)|exact HB.out))));replace a_2:=a_a.mk (Kd.a_C (rup_ a_2.out) hb);replace c_h:=a_a.mk (Kd.c_z (rup_ c_h.out) (Kd.d_z ho0) hb);replace a_Y:=a_a.mk (a_p (bup_ a_Y.out) hb);replace a_3:=a_a.mk (a_p (bup_ a_3.out) hb);replace HB:=a_a.mk (a_i (by repeat (first|(with_reducible first|exact HB.out|apply a_c|apply a_b|apply a_d|refine a_e ?_ a_6.out|refine a_e ?_ c_f.out)|exact HB.out)) hb);(try clear hb);(try clear hb2);(try clear hk);(try clear hi);(try clear ho0);obtain ⟨Ao47,co47,eo47⟩:=Kd.a_V c_h.out;subst eo47;obtain ⟨Ao48,co48,eo48⟩:=Kd.a_V g_r.out;subst eo48)|(go_at_call 15;(with_reducible refine (bytes_Equal.calls _ _ t431 _ _ t436 false _ ?side1 ?side2 ?side3 ?side4 A19.out).mono ?_);(case side1 => repeat (first|exact (Kd.a_v c_h.out).2.2|(with_reducible refine Kd.a_I ?_ _)|(with_reducible refine Kd.a_J ?_ _)|(with_reducible refine Kd.a_T ?_)));(case side2 => exact (Kd.a_v c_h.out).2.1);(case side3 => repeat (first|exact (Kd.a_v g_r.out).2.2|(with_reducible refine Kd.a_I ?_ _)|(with_reducible refine Kd.a_J ?_ _)|(with_reducible refine Kd.a_T ?_)));(case side4 => exact (Kd.a_v g_r.out).2.1);rintro e w' ⟨rfl,⟨nd,rfl⟩⟩))
    go_ret
    exact ⟨by first|rfl|(simp [a_r,a_s] <;> rfl)|(simp [*, a_r,a_s] <;> rfl),by repeat (first|(with_reducible first|exact HB.out|apply a_c|apply a_b|apply a_d|refine a_e ?_ a_6.out|refine a_e ?_ c_f.out)|exact HB.out)⟩
 case rest =>
  clear HC5
  try clear c1
  try clear c2
  try clear p2
  try clear c4
  try clear p4
  try clear q4
  try clear hx4
  try clear c5
  try clear c6
  try clear p6
  try clear c7
  try clear c7b0
  try clear c8
  try clear c8b0
  try clear c9
  try clear c9b0
  try clear c10
  try clear c10b0
  try clear c10b1
  try clear c11
  try clear c12
  try clear c16
  try clear c17
  try clear c17b0
  try clear c17b1
  try clear c20
  try clear c26
  try clear c40
  try clear c42
  try clear p42
  try clear q42
  try clear hx42
  try clear c54
  try clear c59
  try clear c59b0
  try clear c59b1
  try clear c60
  try clear c60b0
  try clear c60b1
  try clear c60b2
  try clear p64
  try clear c66
  try clear c77
  try clear c88
  try clear f_E
  try clear e_N
  try clear e_O
  try clear g_C
  try clear f_H
  try clear g_E
  try clear e_P
  try clear g_F
  try clear i_s
  try clear g_G
  try clear g_H
  try clear g_I
  try clear g_J
  try clear i_t
  try clear i_u
  try clear i_v
  try clear i_w
  try clear i_x
  try clear i_y
  try clear i_z
  try clear i_A
  try clear f_I
  try clear e_Q
  try clear e_R
  try clear g_O
  try clear f_L
  try clear g_Q
  try clear e_S
  try clear g_R
  try clear i_J
  try clear g_S
  try clear g_T
  try clear g_U
  try clear g_V
  try clear i_K
  try clear i_L
  try clear i_M
  try clear i_N
  try clear i_O
  try clear i_P
  try clear i_Q
  try clear i_R
  try clear b_d
  try clear p2
  try clear p425
  try clear q425
  obtain ⟨kq,HA,HJ4,HB⟩:=hcut
  cases kq with
  | zero => exact absurd HA.out (by simp [a_f.j1])
  | succ kj4 =>
   have H:=HA.out
   clear HA
   simp only [a_f.j1] at H
   have H':=a_a.mk H
   clear H
   go_wp2
   go_loopg [66] kj4 (fun kq v66 w' => ∃ (x66_2 : Int),v66 = .int .i64 x66_2 ∧ a_a (a_f.l1 kq l1 (l1.length : Int) x66_2 = some r) ∧ a_a (kq ≤ kj4) ∧ a_a (Below w.heap.size w w'))
   case atStart => exact ⟨(0),(by first|rfl|(simp;done)|(simp [*];done)),H',⟨Nat.le_refl _⟩,⟨by repeat (first|(with_reducible first|exact HB.out|apply a_c|apply a_b|apply a_d)|exact HB.out)⟩⟩
   case round =>
    clear H'
    try clear c1
    try clear c2
    try clear p2
    try clear c4
    try clear p4
    try clear q4
    try clear hx4
    try clear c5
    try clear c6
    try clear p6
    try clear c7
    try clear c7b0
    try clear c8
    try clear c8b0
    try clear c9
    try clear c9b0
    try clear c10
    try clear c10b0
    try clear c10b1
    try clear c11
    try clear c12
    try clear c16
    try clear c17
    try clear c17b0
    try clear c17b1
    try clear c20
    try clear c26
    try clear c40
    try clear c42
    try clear p42
    try clear q42
    try clear hx42
    try clear c54
    try clear c59
    try clear c59b0
    try clear c59b1
    try clear c60
    try clear c60b0
    try clear c60b1
    try clear c60b2
    try clear p64
    try clear c66
    try clear c77
    try clear c88
    try clear f_E
    try clear e_N
    try clear e_O
    try clear g_C
    try clear f_H
    try clear g_E
    try clear e_P
    try clear g_F
    try clear i_s
    try clear g_G
    try clear g_H
    try clear g_I
    try clear g_J
    try clear i_t
    try clear i_u
    try clear i_v
    try clear i_w
    try clear i_x
    try clear i_y
    try clear i_z
    try clear i_A
    try clear f_I
    try clear e_Q
    try clear e_R
    try clear g_O
    try clear f_L
    try clear g_Q
    try clear e_S
    try clear g_R
    try clear i_J
    try clear g_S
    try clear g_T
    try clear g_U
    try clear g_V
    try clear i_K
    try clear i_L
    try clear i_M
    try clear i_N
    try clear i_O
    try clear i_P
    try clear i_Q
    try clear i_R
    try clear b_d
    try clear p2
    try clear p4
    try clear p42
    try clear p425
    try clear p6
    try clear p64
    try clear q4
    try clear q42
    try clear q425
    obtain ⟨x66_2,rfl,HA,HK2,HB⟩:=hrel
    cases gk with
    | zero => exact absurd HA.out (by simp [a_f.l1])
    | succ k2 =>
     have H:=HA.out
     clear HA
     simp only [a_f.l1] at H
     by_cases c93 : x66_2 < (l1.length : Int)
     rotate_left
     ·rw [if_neg c93] at H
      have c93b0 : decide (x66_2 < (l1.length : Int)) = false:=decide_eq_false c93
      clear c93
      obtain rfl:=Option.some.inj H
      go_wp2
      go_ret
      exact ⟨by first|rfl|(simp [a_r,a_s] <;> rfl)|(simp [*, a_r,a_s] <;> rfl),by repeat (first|(with_reducible first|exact HB.out|apply a_c|apply a_b|apply a_d)|exact HB.out)⟩
     rw [if_pos c93] at H
     have c93b0 : decide (x66_2 < (l1.length : Int)) = true:=decide_eq_true c93
     clear c93
     by_cases c94 : 0 ≤ x66_2
     rotate_left
     ·rw [if_neg c94] at H
      exact absurd H (by simp)
     rw [if_pos c94] at H
     have c94b0 : decide (0 ≤ x66_2) = true:=decide_eq_true c94
     clear c94
     by_cases c95 : x66_2 < (l1.length : Int)
     rotate_left
     ·rw [if_neg c95] at H
      exact absurd H (by simp)
     rw [if_pos c95] at H
     have c95b0 : decide (x66_2 < (l1.length : Int)) = true:=decide_eq_true c95
     clear c95
     by_cases c96 : x66_2 = 12
     ·rw [if_pos c96] at H
      have c96b0 : (x66_2 == 12) = true:=beq_iff_eq.mpr c96
      have c96b1 : (x66_2 != 12) = false:=bne_eq_false_iff_eq.mpr c96
      clear c96
      obtain rfl:=Option.some.inj H
      have p440 : 0 ≤ (x66_2 : Int):=of_decide_eq_true (by first|(with_reducible assumption)|assumption)
      have q440 : x66_2 < (l1.length : Int):=of_decide_eq_true (by first|(with_reducible assumption)|assumption)
      obtain ⟨ad440,A440_0,c440_0,e440,c_j,c_P,c_O⟩:=j_i HR1.out x66_2 p440 q440
      cases e440
      replace c_j:=(HB.out.cell (World.block_lt_of_cell? w _ c_j)).trans c_j
      have d_7:=a_a.mk c_O
      have d_5:=a_a.mk c_P
      clear c_O c_P
      replace p440:=eq_true p440
      replace q440:=eq_true q440
      go_wp2
      go_ret
      exact ⟨by first|rfl|(simp [a_r,a_s] <;> rfl)|(simp [*, a_r,a_s] <;> rfl),by repeat (first|(with_reducible first|exact HB.out|apply a_c|apply a_b|apply a_d)|exact HB.out)⟩
     rw [if_neg c96] at H
     have c96b0 : (x66_2 == 12) = false:=beq_eq_false_iff_ne.mpr c96
     have c96b1 : (x66_2 != 12) = true:=bne_iff_ne.mpr c96
     obtain ⟨y441,hy441⟩ : ∃ y_ : List Int,y_ = (([] : List Int)):=⟨_,rfl⟩
     replace H : (if 0 ≤ (mn ((b_h l1 x66_2).length : Int) 600) then (if (mn ((b_h l1 x66_2).length : Int) 600) ≤ ((b_h l1 x66_2).length : Int) then (if y441.length + ((b_h l1 x66_2).take ((mn ((b_h l1 x66_2).length : Int) 600) : Int).toNat).length < 140737488355328 then ((some (y441 ++ ((b_h l1 x66_2).take ((mn ((b_h l1 x66_2).length : Int) 600) : Int).toNat) : List Int)).bind fun y445 => ((a_w.f k2 y445).bind fun bt448 => ((some (([] : List Int) : List Int)).bind fun y453 => (if y453.length + y445.length < 140737488355328 then ((a_h.f k2 (y453 ++ y445)).bind fun bt459 => (if bt448.2 = bt459.2 then ((a_t.f k2 bt448.1 bt459.1).bind fun t464 => (if t464 = true then (a_f.l1 k2 l1 (l1.length : Int) (wrap64 (x66_2 + 1))) else (some false))) else (some false))) else (none))))) else (none)) else (none)) else (none)) = some r:=by first|(rw [hy441];with_reducible exact H)|(have H2_:=(Option.bind_some _ _).symm.trans H;rw [hy441];with_reducible exact H2_)|(have H2_:=(Option.bind_some _ _).symm.trans H;with_reducible exact H2_)|with_reducible exact H|(rw [hy441];exact H)|exact H
     have Ny441:=a_a.mk hy441
     clear hy441
     obtain ⟨ji97,hji97⟩ : ∃ j_ : Int,(mn ((b_h l1 x66_2).length : Int) 600) = j_:=⟨_,rfl⟩
     replace H : (if 0 ≤ (ji97) then (if (ji97) ≤ ((b_h l1 x66_2).length : Int) then (if y441.length + ((b_h l1 x66_2).take ((ji97) : Int).toNat).length < 140737488355328 then ((some (y441 ++ ((b_h l1 x66_2).take ((ji97) : Int).toNat) : List Int)).bind fun y445 => ((a_w.f k2 y445).bind fun bt448 => ((some (([] : List Int) : List Int)).bind fun y453 => (if y453.length + y445.length < 140737488355328 then ((a_h.f k2 (y453 ++ y445)).bind fun bt459 => (if bt448.2 = bt459.2 then ((a_t.f k2 bt448.1 bt459.1).bind fun t464 => (if t464 = true then (a_f.l1 k2 l1 (l1.length : Int) (wrap64 (x66_2 + 1))) else (some false))) else (some false))) else (none))))) else (none)) else (none)) else (none)) = some r:=by first|(rw [hji97] at H;exact H)|(simp only [hji97] at H ⊢; exact H)
     have hji97_ : (if 600 < ((b_h l1 x66_2).length : Int) then 600 else ((b_h l1 x66_2).length : Int)) = ji97:=hji97
     by_cases c98 : 0 ≤ (ji97)
     rotate_left
     ·rw [if_neg c98] at H
      exact absurd H (by simp)
     rw [if_pos c98] at H
     have c98b0:=eq_true c98
     have c98b1 : decide (0 ≤ (ji97)) = true:=decide_eq_true c98
     clear c98
     by_cases c99 : (ji97) ≤ ((b_h l1 x66_2).length : Int)
     rotate_left
     ·rw [if_neg c99] at H
      exact absurd H (by simp)
     rw [if_pos c99] at H
     have c99b0:=eq_true c99
     have c99b1 : decide ((ji97) ≤ ((b_h l1 x66_2).length : Int)) = true:=decide_eq_true c99
     clear c99
     by_cases c100 : y441.length + ((b_h l1 x66_2).take ((ji97) : Int).toNat).length < 140737488355328
     rotate_left
     ·rw [if_neg c100] at H
      exact absurd H (by simp)
     rw [if_pos c100] at H
     have LMc100:=a_a.mk c100
     clear c100
     obtain ⟨y445,hy445⟩ : ∃ y_ : List Int,y_ = (y441 ++ ((b_h l1 x66_2).take ((ji97) : Int).toNat)):=⟨_,rfl⟩
     replace H : ((a_w.f k2 y445).bind fun bt448 => ((some (([] : List Int) : List Int)).bind fun y453 => (if y453.length + y445.length < 140737488355328 then ((a_h.f k2 (y453 ++ y445)).bind fun bt459 => (if bt448.2 = bt459.2 then ((a_t.f k2 bt448.1 bt459.1).bind fun t464 => (if t464 = true then (a_f.l1 k2 l1 (l1.length : Int) (wrap64 (x66_2 + 1))) else (some false))) else (some false))) else (none)))) = some r:=by first|(rw [hy445];with_reducible exact H)|(have H2_:=(Option.bind_some _ _).symm.trans H;rw [hy445];with_reducible exact H2_)|(have H2_:=(Option.bind_some _ _).symm.trans H;with_reducible exact H2_)|with_reducible exact H|(rw [hy445];exact H)|exact H
     have Ny445:=a_a.mk hy445
     clear hy445
     replace H:=Option.bind_eq_some_iff.mp H
     obtain ⟨⟨t448,t451⟩,A1010,H⟩:=H
     replace H : ((some (([] : List Int) : List Int)).bind fun y453 => (if y453.length + y445.length < 140737488355328 then ((a_h.f k2 (y453 ++ y445)).bind fun bt459 => (if t451 = bt459.2 then ((a_t.f k2 t448 bt459.1).bind fun t464 => (if t464 = true then (a_f.l1 k2 l1 (l1.length : Int) (wrap64 (x66_2 + 1))) else (some false))) else (some false))) else (none))) = some r:=H
     have A101:=a_a.mk A1010
     clear A1010
     obtain ⟨y453,hy453⟩ : ∃ y_ : List Int,y_ = (([] : List Int)):=⟨_,rfl⟩
     replace H : (if y453.length + y445.length < 140737488355328 then ((a_h.f k2 (y453 ++ y445)).bind fun bt459 => (if t451 = bt459.2 then ((a_t.f k2 t448 bt459.1).bind fun t464 => (if t464 = true then (a_f.l1 k2 l1 (l1.length : Int) (wrap64 (x66_2 + 1))) else (some false))) else (some false))) else (none)) = some r:=by first|(rw [hy453];with_reducible exact H)|(have H2_:=(Option.bind_some _ _).symm.trans H;rw [hy453];with_reducible exact H2_)|(have H2_:=(Option.bind_some _ _).symm.trans H;with_reducible exact H2_)|with_reducible exact H|(rw [hy453];exact H)|exact H
     have Ny453:=a_a.mk hy453
     clear hy453
     by_cases c102 : y453.length + y445.length < 140737488355328
     rotate_left
     ·rw [if_neg c102] at H
      exact absurd H (by simp)
     rw [if_pos c102] at H
     have LMc102:=a_a.mk c102
     clear c102
     obtain ⟨y456,hy456⟩ : ∃ y_ : List Int,y_ = (y453 ++ y445):=⟨_,rfl⟩
     replace H : ((a_h.f k2 y456).bind fun bt459 => (if t451 = bt459.2 then ((a_t.f k2 t448 bt459.1).bind fun t464 => (if t464 = true then (a_f.l1 k2 l1 (l1.length : Int) (wrap64 (x66_2 + 1))) else (some false))) else (some false))) = some r:=by first|(rw [hy456];with_reducible exact H)|(have H2_:=(Option.bind_some _ _).symm.trans H;rw [hy456];with_reducible exact H2_)|(have H2_:=(Option.bind_some _ _).symm.trans H;with_reducible exact H2_)|with_reducible exact H|(rw [hy456];exact H)|exact H
     have Ny456:=a_a.mk hy456
     clear hy456
     replace H:=Option.bind_eq_some_iff.mp H
     obtain ⟨⟨t459,t462⟩,A1030,H⟩:=H
     replace H : (if t451 = t462 then ((a_t.f k2 t448 t459).bind fun t464 => (if t464 = true then (a_f.l1 k2 l1 (l1.length : Int) (wrap64 (x66_2 + 1))) else (some false))) else (some false)) = some r:=H
     have A103:=a_a.mk A1030
     clear A1030
     by_cases c104 : t451 = t462
     rotate_left
     ·rw [if_neg c104] at H
      have c104b0 : (t451 == t462) = false:=beq_eq_false_iff_ne.mpr c104
      have c104b1 : (t451 != t462) = true:=bne_iff_ne.mpr c104
      obtain rfl:=Option.some.inj H
      have p440 : 0 ≤ (x66_2 : Int):=of_decide_eq_true (by first|(with_reducible assumption)|assumption)
      have q440 : x66_2 < (l1.length : Int):=of_decide_eq_true (by first|(with_reducible assumption)|assumption)
      obtain ⟨ad440,A440_0,c440_0,e440,c_j,c_P,c_O⟩:=j_i HR1.out x66_2 p440 q440
      cases e440
      replace c_j:=(HB.out.cell (World.block_lt_of_cell? w _ c_j)).trans c_j
      have d_7:=a_a.mk c_O
      have d_5:=a_a.mk c_P
      clear c_O c_P
      replace p440:=eq_true p440
      replace q440:=eq_true q440
      go_wp2_with (first|((with_reducible refine a_B (N:=73) rfl ?_);(try (refine a_D (by rfl) ?_;dsimp only));refine Kd.e_F (Kd.int .u8) _ 5 ?hg (N:=73) ?hd (xs:=([] : List Int)) (inner:=[]) (ok:=fun _ => True) (okp:=fun _ => True) ?hr ?hp (fun _ hk => hk) trivial (Below.refl _ _) (Nat.le_refl _) (by simp) ?_;(case hd => rfl);(case hg => rfl);(case hr => first|(go_simp;done)|(go_simp;rfl));(case hp => exact (Reps.none _ _));intro v442 w147 ho148 hb hg_ hnew_;clear hg_ hnew_;(first|rw [← Ny441.out] at ho148|(simp only [Int.reduceToNat] at ho148;rw [← Ny441.out] at ho148));have f_1:=a_a.mk (Kd.a_S ho148 (a_g (lup_ HB.out)));replace HB:=a_a.mk (a_i (lup_ HB.out) hb);clear hb ho148;obtain ⟨i0149,j_Q,_,hsz149,_⟩:=info_parts info5;obtain ⟨hcut149,hA149,hC149⟩:=c_3 (P:=Tryd.prog) (Value.int .u8) 0 25 5 .i64 Tryd.underlying25 j_Q hsz149 A440_0 c440_0 (b_h l1 x66_2) (ji97) (of_decide_eq_true (by first|(with_reducible assumption)|assumption)) (of_decide_eq_true (by first|(with_reducible assumption)|assumption)) d_5.out;have e_y:=a_a.mk (Kd.d_4 (h1:=fun _ => rfl) (hA149 _ (Kd.c_Y d_7.out)));have k_C:=a_a.mk hC149;clear hA149 hC149 j_Q hsz149)|((with_reducible refine b_C (b:=.append) (xs:=#[.tmp 73,.tmp 78]) rfl ?_);(try (refine a_D (by rfl) ?_;dsimp only));at_builtin;refine Kd.b_v (Kd.int .u8) (w0:=w) w.heap.size rfl (.tmp 73) (.tmp 78) 25 5 (.int .u8 0) 1 rfl Tryd.underlying25 info5 rfl (by decide) (by omega) v442 y441 ((b_h l1 x66_2).take ((ji97) : Int).toNat) _ _ _ (fun _ => True) (fun _ => False) rfl rfl ?aO ?aR (fun _ _ h => h) (fun _ h => h.elim) ?aF ?aB ?aS ?aL ?_;(case aR => first|(refine h_E (show ((b_h l1 x66_2).take ((ji97) : Int).toNat).length = (ji97).toNat from (by rw [List.length_take];have h_ : ((ji97) : Int) ≤ ((b_h l1 x66_2).length : Int):=of_decide_eq_true (by first|(with_reducible assumption)|assumption);omega)) ?_;repeat (first|exact (Kd.a_P e_y.out HB.out)|(with_reducible refine Kd.a_I ?_ _)|(with_reducible refine Kd.a_J ?_ _)|(with_reducible refine Kd.a_T ?_)))|(rw [← show ((b_h l1 x66_2).take ((ji97) : Int).toNat).length = (ji97).toNat from (by rw [List.length_take];have h_ : ((ji97) : Int) ≤ ((b_h l1 x66_2).length : Int):=of_decide_eq_true (by first|(with_reducible assumption)|assumption);omega)];repeat (first|exact (Kd.a_P e_y.out HB.out)|(with_reducible refine Kd.a_I ?_ _)|(with_reducible refine Kd.a_J ?_ _)|(with_reducible refine Kd.a_T ?_)))|(repeat (first|exact (Kd.a_P e_y.out HB.out)|(with_reducible refine Kd.a_I ?_ _)|(with_reducible refine Kd.a_J ?_ _)|(with_reducible refine Kd.a_T ?_))));(case aB => exact (lup_ HB.out));(case aF => exact (fun _ _ => trivial));(case aO => exact (rup_ f_1.out));(case aS => exact (a_g (lup_ HB.out)));(case aL => have:=LMc100.out;have hlx_:=(show ((b_h l1 x66_2).take ((ji97) : Int).toNat).length = (ji97).toNat from (by rw [List.length_take];have h_ : ((ji97) : Int) ≤ ((b_h l1 x66_2).length : Int):=of_decide_eq_true (by first|(with_reducible assumption)|assumption);omega));omega);intro v446 w150 ho hb hg hat;rw [← Ny445.out] at ho;have b_c:=a_a.mk (ho);replace HB:=a_a.mk (hb);clear f_1 ho hb hg hat;obtain ⟨k_w,k_O,l_S⟩:=Kd.a_V b_c.out;subst l_S)|((with_reducible refine a_y (f:=13) rfl ?_);refine a_U (some 82) rfl rfl Tryd.func13 (by kernel_rfl) rfl #[.slice k_w y445.length k_O] rfl (by (try simp only [List.map_toArray,List.map_cons,List.map_nil]);first|done|rfl|(simp only [List.length_drop,List.length_take];rfl)) ?_;(with_reducible refine (a_w.calls k2 _ _ y445 t448 t451 _ ?side1 ?side2 A101.out).mono ?_);(case side1 => repeat (first|exact (Kd.a_v b_c.out).2.2|(with_reducible refine Kd.a_I ?_ _)|(with_reducible refine Kd.a_J ?_ _)|(with_reducible refine Kd.a_T ?_)));(case side2 => exact (Kd.a_v b_c.out).2.1);rintro e w152 ⟨v449,rfl,ho0,hb⟩;refine ⟨_,rfl,?_⟩;have b_y:=a_a.mk (Kd.a_S ho0 (a_g (lup_ HB.out)));replace b_c:=a_a.mk (Kd.a_C (rup_ b_c.out) hb);replace HB:=a_a.mk (a_i (lup_ HB.out) hb);(try clear hb);(try clear hb2);(try clear hk);(try clear hi);(try clear ho0))|((with_reducible refine a_B (N:=14) rfl ?_);(try (refine a_D (by rfl) ?_;dsimp only));refine a_A ?hg (N:=14) ?hd (cs:=#[.slice none 0 0]) (t:=24) ?hr ?_;(case hd => rfl);(case hg => rfl);(case hr => first|(go_simp;done)|(go_simp;rfl));intro b_Z hg w153 hbox hb;have b_e:=a_a.mk (hbox);have k_A:=a_a.mk ((by rw [hg];exact (a_g (lup_ HB.out)) : w.heap.size ≤ b_Z));have c_c:=a_a.mk ((by rw [hg];exact (a_g (lup_ HB.out)) : w.heap.size ≤ b_Z));replace b_c:=a_a.mk (Kd.a_C (rup_ b_c.out) hb);replace b_y:=a_a.mk (Kd.a_C (rup_ b_y.out) hb);replace HB:=a_a.mk (a_i (lup_ HB.out) hb);clear hb hbox hg;obtain ⟨h_D,i_d,l_T⟩:=Kd.a_V b_y.out;subst l_T;have l_g : w153.cell? ⟨b_Z,0,none⟩ = some (.slice none 0 0):=(a_m b_e.out 0).trans rfl;have l_o:=a_j b_e.out 0)|((with_reducible refine a_B (N:=86) rfl ?_);(try (refine a_D (by rfl) ?_;dsimp only));refine Kd.e_F (Kd.int .u8) _ 5 ?hg (N:=86) ?hd (xs:=([] : List Int)) (inner:=[]) (ok:=fun _ => True) (okp:=fun _ => True) ?hr ?hp (fun _ hk => hk) trivial (Below.refl _ _) (Nat.le_refl _) (by simp) ?_;(case hd => rfl);(case hg => rfl);(case hr => first|(go_simp;done)|(go_simp;rfl));(case hp => exact (Reps.none _ _));intro v454 w156 ho157 hb hg_ hnew_;clear hg_ hnew_;(first|rw [← Ny453.out] at ho157|(simp only [Int.reduceToNat] at ho157;rw [← Ny453.out] at ho157));have d_R:=a_a.mk (Kd.a_S (Kd.d_A ho157 (Kd.R_lt (by (with_reducible repeat (first|apply Kd.a_G|apply Kd.a_H|apply Kd.a_O));exact (Kd.a_Q (Kd.b_a (p:=⟨b_Z,0,none⟩) (Kd.a_N b_c.out b_e.out (by decide)) (fun _ hk => hk.2) (.slice h_D t448.length i_d)) (fun _ h_ => h_.1))))) (a_g (by repeat (first|(with_reducible first|exact HB.out|apply a_c|apply a_b|apply a_d|refine a_e ?_ c_c.out)|exact HB.out))));replace b_c:=a_a.mk (Kd.c_z (by (with_reducible repeat (first|apply Kd.a_G|apply Kd.a_H|apply Kd.a_O));exact (Kd.a_Q (Kd.b_a (p:=⟨b_Z,0,none⟩) (Kd.a_N b_c.out b_e.out (by decide)) (fun _ hk => hk.2) (.slice h_D t448.length i_d)) (fun _ h_ => h_.1))) (Kd.d_z ho157) hb);replace b_y:=a_a.mk (Kd.a_C (by (with_reducible repeat (first|apply Kd.a_G|apply Kd.a_H|apply Kd.a_O));exact (Kd.a_Q (Kd.b_a (p:=⟨b_Z,0,none⟩) (Kd.a_N b_y.out b_e.out (by decide)) (fun _ hk => hk.2) (.slice h_D t448.length i_d)) (fun _ h_ => h_.1))) hb);replace b_e:=a_a.mk (a_p (g:=b_Z) (o:=.cells #[.slice h_D t448.length i_d] 24 (0,0)) (by (with_reducible repeat (first|refine a_l ?_ _|refine a_o ?_|refine a_k ?_ _));refine a_R (cs:=#[.slice none 0 0]) ?_ 0 _ rfl;(with_reducible repeat (first|refine a_l ?_ _|refine a_o ?_|refine a_k ?_ _));exact b_e.out) hb);replace HB:=a_a.mk (a_i (by repeat (first|(with_reducible first|exact HB.out|apply a_c|apply a_b|apply a_d|refine a_e ?_ c_c.out)|exact HB.out)) hb);clear hb ho157)|((with_reducible refine b_C (b:=.append) (xs:=#[.tmp 86,.tmp 87]) rfl ?_);(try (refine a_D (by rfl) ?_;dsimp only));at_builtin;refine Kd.b_v (Kd.int .u8) (w0:=w) w.heap.size rfl (.tmp 86) (.tmp 87) 25 5 (.int .u8 0) 1 rfl Tryd.underlying25 info5 rfl (by decide) (by omega) v454 y453 y445 _ _ _ (fun k_ => some k_ ≠ (.slice k_w y445.length k_O : Value).ownBlock) (fun _ => False) rfl rfl ?aO ?aR (fun _ _ h => h) (fun _ h => h.elim) ?aF ?aB ?aS ?aL ?_;(case aR => repeat (first|exact (Kd.a_v b_c.out).2.2|(with_reducible refine Kd.a_I ?_ _)|(with_reducible refine Kd.a_J ?_ _)|(with_reducible refine Kd.a_T ?_)));(case aB => exact (by repeat (first|(with_reducible first|exact HB.out|apply a_c|apply a_b|apply a_d|refine a_e ?_ c_c.out)|exact HB.out)));(case aF => exact (fun k_ hk => Kd.fresh' (Kd.R_lt (rup_ b_c.out)) k_ hk));(case aO => exact (by (with_reducible repeat (first|apply Kd.a_G|apply Kd.a_H|apply Kd.a_O));exact Kd.a_Q d_R.out (fun _ hk => hk.2)));(case aS => exact (a_g (by repeat (first|(with_reducible first|exact HB.out|apply a_c|apply a_b|apply a_d|refine a_e ?_ c_c.out)|exact HB.out))));(case aL => have:=LMc102.out;omega);intro v457 w158 ho hb hg hat;rw [← Ny456.out] at ho;have c_x:=a_a.mk (ho);replace b_c:=a_a.mk (Kd.e_E (ok:=(fun _ => True)) (rup_ b_c.out) hg hat);replace b_y:=a_a.mk (Kd.g_s (rup_ b_y.out) (Kd.g_t (rup_ d_R.out)) (by decide) hg);replace b_e:=a_a.mk (b_x (g:=b_Z) (o:=.cells #[.slice h_D t448.length i_d] 24 (0,0)) (bup_ b_e.out) hg (Kd.R_ne d_R.out b_e.out (by decide)));replace HB:=a_a.mk (hb);clear d_R ho hb hg hat;obtain ⟨l_s,l_J,l_U⟩:=Kd.a_V c_x.out;subst l_U)|((with_reducible refine a_y (f:=36) rfl ?_);refine a_U (some 89) rfl rfl Tryd.func36 (by kernel_rfl) rfl #[.slice l_s y456.length l_J] rfl (by (try simp only [List.map_toArray,List.map_cons,List.map_nil]);first|done|rfl|(simp only [List.length_drop,List.length_take];rfl)) ?_;(with_reducible refine (a_h.calls k2 _ _ y456 t459 t462 _ ?side1 ?side2 A103.out).mono ?_);(case side1 => repeat (first|exact (Kd.a_v c_x.out).2.2|(with_reducible refine Kd.a_I ?_ _)|(with_reducible refine Kd.a_J ?_ _)|(with_reducible refine Kd.a_T ?_)));(case side2 => exact (Kd.a_v c_x.out).2.1);rintro e w160 ⟨v460,rfl,ho0,hb⟩;refine ⟨_,rfl,?_⟩;have c_0:=a_a.mk (Kd.a_S (Kd.d_A ho0 (Kd.R_lt (rup_ b_y.out))) (a_g (by repeat (first|(with_reducible first|exact HB.out|apply a_c|apply a_b|apply a_d|refine a_e ?_ c_c.out)|exact HB.out))));replace b_c:=a_a.mk (Kd.a_C (rup_ b_c.out) hb);replace b_y:=a_a.mk (Kd.c_z (rup_ b_y.out) (Kd.d_z ho0) hb);replace c_x:=a_a.mk (Kd.a_C (rup_ c_x.out) hb);replace b_e:=a_a.mk (a_p (bup_ b_e.out) hb);replace HB:=a_a.mk (a_i (by repeat (first|(with_reducible first|exact HB.out|apply a_c|apply a_b|apply a_d|refine a_e ?_ c_c.out)|exact HB.out)) hb);(try clear hb);(try clear hb2);(try clear hk);(try clear hi);(try clear ho0))|((with_reducible refine a_B (N:=16) rfl ?_);(try (refine a_D (by rfl) ?_;dsimp only));refine a_A ?hg (N:=16) ?hd (cs:=#[.slice none 0 0]) (t:=24) ?hr ?_;(case hd => rfl);(case hg => rfl);(case hr => first|(go_simp;done)|(go_simp;rfl));intro c_i hg w161 hbox hb;have c_H:=a_a.mk (hbox);have k_B:=a_a.mk ((by rw [hg];exact (a_g (by repeat (first|(with_reducible first|exact HB.out|apply a_c|apply a_b|apply a_d|refine a_e ?_ c_c.out)|exact HB.out))) : w.heap.size ≤ c_i));have g_q:=a_a.mk ((by rw [hg];exact (a_g (by repeat (first|(with_reducible first|exact HB.out|apply a_c|apply a_b|apply a_d|refine a_e ?_ c_c.out)|exact HB.out))) : w.heap.size ≤ c_i));have c_M:=a_a.mk ((by rw [hg];exact Nat.ne_of_lt (a_M (bup_ b_e.out)) : b_Z ≠ c_i));have d_g:=a_a.mk ((by rw [hg];exact Nat.ne_of_gt (a_M (bup_ b_e.out)) : c_i ≠ b_Z));replace b_c:=a_a.mk (Kd.a_C (rup_ b_c.out) hb);replace b_y:=a_a.mk (Kd.a_C (rup_ b_y.out) hb);replace c_x:=a_a.mk (Kd.a_C (rup_ c_x.out) hb);replace c_0:=a_a.mk (Kd.a_C (rup_ c_0.out) hb);replace b_e:=a_a.mk (a_p (bup_ b_e.out) hb);replace HB:=a_a.mk (a_i (by repeat (first|(with_reducible first|exact HB.out|apply a_c|apply a_b|apply a_d|refine a_e ?_ c_c.out)|exact HB.out)) hb);clear hb hbox hg;obtain ⟨m_9,n_t,l_V⟩:=Kd.a_V c_0.out;subst l_V;have m_5:=d_g.out;have m_8:=c_M.out;have l_h : w161.cell? ⟨c_i,0,none⟩ = some (.slice none 0 0):=(a_m c_H.out 0).trans rfl;have l_p:=a_j c_H.out 0))
      go_ret
      exact ⟨by first|rfl|(simp [a_r,a_s] <;> rfl)|(simp only [← hji97];first|rfl|(simp [a_r,a_s] <;> rfl))|(simp [*, a_r,a_s] <;> rfl),by repeat (first|(with_reducible first|exact HB.out|apply a_c|apply a_b|apply a_d|refine a_e ?_ c_c.out|refine a_e ?_ g_q.out)|exact HB.out)⟩
     rw [if_pos c104] at H
     have c104b0 : (t451 == t462) = true:=beq_iff_eq.mpr c104
     have c104b1 : (t451 != t462) = false:=bne_eq_false_iff_eq.mpr c104
     clear c104
     replace H:=Option.bind_eq_some_iff.mp H
     obtain ⟨t464,A1050,H⟩:=H
     replace H : (if t464 = true then (a_f.l1 k2 l1 (l1.length : Int) (wrap64 (x66_2 + 1))) else (some false)) = some r:=H
     have A105:=a_a.mk A1050
     clear A1050
     by_cases c106 : t464 = true
     ·subst c106
      have H1 : (a_f.l1 k2 l1 (l1.length : Int) (wrap64 (x66_2 + 1))) = some r:=by rw [if_pos rfl] at H;exact H
      clear H
      have H:=H1
      clear H1
      have H':=a_a.mk H
      clear H
      have p440 : 0 ≤ (x66_2 : Int):=of_decide_eq_true (by first|(with_reducible assumption)|assumption)
      have q440 : x66_2 < (l1.length : Int):=of_decide_eq_true (by first|(with_reducible assumption)|assumption)
      obtain ⟨ad440,A440_0,c440_0,e440,c_j,c_P,c_O⟩:=j_i HR1.out x66_2 p440 q440
      cases e440
      replace c_j:=(HB.out.cell (World.block_lt_of_cell? w _ c_j)).trans c_j
      have d_7:=a_a.mk c_O
      have d_5:=a_a.mk c_P
      clear c_O c_P
      replace p440:=eq_true p440
      replace q440:=eq_true q440
      go_wp2_with (first|((with_reducible refine a_B (N:=73) rfl ?_);(try (refine a_D (by rfl) ?_;dsimp only));refine Kd.e_F (Kd.int .u8) _ 5 ?hg (N:=73) ?hd (xs:=([] : List Int)) (inner:=[]) (ok:=fun _ => True) (okp:=fun _ => True) ?hr ?hp (fun _ hk => hk) trivial (Below.refl _ _) (Nat.le_refl _) (by simp) ?_;(case hd => rfl);(case hg => rfl);(case hr => first|(go_simp;done)|(go_simp;rfl));(case hp => exact (Reps.none _ _));intro v442 w107 ho108 hb hg_ hnew_;clear hg_ hnew_;(first|rw [← Ny441.out] at ho108|(simp only [Int.reduceToNat] at ho108;rw [← Ny441.out] at ho108));have f_1:=a_a.mk (Kd.a_S ho108 (a_g (lup_ HB.out)));replace HB:=a_a.mk (a_i (lup_ HB.out) hb);clear hb ho108;obtain ⟨i0109,j_O,_,hsz109,_⟩:=info_parts info5;obtain ⟨hcut109,hA109,hC109⟩:=c_3 (P:=Tryd.prog) (Value.int .u8) 0 25 5 .i64 Tryd.underlying25 j_O hsz109 A440_0 c440_0 (b_h l1 x66_2) (ji97) (of_decide_eq_true (by first|(with_reducible assumption)|assumption)) (of_decide_eq_true (by first|(with_reducible assumption)|assumption)) d_5.out;have e_y:=a_a.mk (Kd.d_4 (h1:=fun _ => rfl) (hA109 _ (Kd.c_Y d_7.out)));have k_C:=a_a.mk hC109;clear hA109 hC109 j_O hsz109)|((with_reducible refine b_C (b:=.append) (xs:=#[.tmp 73,.tmp 78]) rfl ?_);(try (refine a_D (by rfl) ?_;dsimp only));at_builtin;refine Kd.b_v (Kd.int .u8) (w0:=w) w.heap.size rfl (.tmp 73) (.tmp 78) 25 5 (.int .u8 0) 1 rfl Tryd.underlying25 info5 rfl (by decide) (by omega) v442 y441 ((b_h l1 x66_2).take ((ji97) : Int).toNat) _ _ _ (fun _ => True) (fun _ => False) rfl rfl ?aO ?aR (fun _ _ h => h) (fun _ h => h.elim) ?aF ?aB ?aS ?aL ?_;(case aR => first|(refine h_E (show ((b_h l1 x66_2).take ((ji97) : Int).toNat).length = (ji97).toNat from (by rw [List.length_take];have h_ : ((ji97) : Int) ≤ ((b_h l1 x66_2).length : Int):=of_decide_eq_true (by first|(with_reducible assumption)|assumption);omega)) ?_;repeat (first|exact (Kd.a_P e_y.out HB.out)|(with_reducible refine Kd.a_I ?_ _)|(with_reducible refine Kd.a_J ?_ _)|(with_reducible refine Kd.a_T ?_)))|(rw [← show ((b_h l1 x66_2).take ((ji97) : Int).toNat).length = (ji97).toNat from (by rw [List.length_take];have h_ : ((ji97) : Int) ≤ ((b_h l1 x66_2).length : Int):=of_decide_eq_true (by first|(with_reducible assumption)|assumption);omega)];repeat (first|exact (Kd.a_P e_y.out HB.out)|(with_reducible refine Kd.a_I ?_ _)|(with_reducible refine Kd.a_J ?_ _)|(with_reducible refine Kd.a_T ?_)))|(repeat (first|exact (Kd.a_P e_y.out HB.out)|(with_reducible refine Kd.a_I ?_ _)|(with_reducible refine Kd.a_J ?_ _)|(with_reducible refine Kd.a_T ?_))));(case aB => exact (lup_ HB.out));(case aF => exact (fun _ _ => trivial));(case aO => exact (rup_ f_1.out));(case aS => exact (a_g (lup_ HB.out)));(case aL => have:=LMc100.out;have hlx_:=(show ((b_h l1 x66_2).take ((ji97) : Int).toNat).length = (ji97).toNat from (by rw [List.length_take];have h_ : ((ji97) : Int) ≤ ((b_h l1 x66_2).length : Int):=of_decide_eq_true (by first|(with_reducible assumption)|assumption);omega));omega);intro v446 w110 ho hb hg hat;rw [← Ny445.out] at ho;have b_c:=a_a.mk (ho);replace HB:=a_a.mk (hb);clear f_1 ho hb hg hat;obtain ⟨k_u,k_M,l_K⟩:=Kd.a_V b_c.out;subst l_K)|((with_reducible refine a_y (f:=13) rfl ?_);refine a_U (some 82) rfl rfl Tryd.func13 (by kernel_rfl) rfl #[.slice k_u y445.length k_M] rfl (by (try simp only [List.map_toArray,List.map_cons,List.map_nil]);first|done|rfl|(simp only [List.length_drop,List.length_take];rfl)) ?_;(with_reducible refine (a_w.calls k2 _ _ y445 t448 t451 _ ?side1 ?side2 A101.out).mono ?_);(case side1 => repeat (first|exact (Kd.a_v b_c.out).2.2|(with_reducible refine Kd.a_I ?_ _)|(with_reducible refine Kd.a_J ?_ _)|(with_reducible refine Kd.a_T ?_)));(case side2 => exact (Kd.a_v b_c.out).2.1);rintro e w112 ⟨v449,rfl,ho0,hb⟩;refine ⟨_,rfl,?_⟩;have b_y:=a_a.mk (Kd.a_S ho0 (a_g (lup_ HB.out)));replace b_c:=a_a.mk (Kd.a_C (rup_ b_c.out) hb);replace HB:=a_a.mk (a_i (lup_ HB.out) hb);(try clear hb);(try clear hb2);(try clear hk);(try clear hi);(try clear ho0))|((with_reducible refine a_B (N:=14) rfl ?_);(try (refine a_D (by rfl) ?_;dsimp only));refine a_A ?hg (N:=14) ?hd (cs:=#[.slice none 0 0]) (t:=24) ?hr ?_;(case hd => rfl);(case hg => rfl);(case hr => first|(go_simp;done)|(go_simp;rfl));intro b_Z hg w113 hbox hb;have b_e:=a_a.mk (hbox);have k_A:=a_a.mk ((by rw [hg];exact (a_g (lup_ HB.out)) : w.heap.size ≤ b_Z));have c_c:=a_a.mk ((by rw [hg];exact (a_g (lup_ HB.out)) : w.heap.size ≤ b_Z));replace b_c:=a_a.mk (Kd.a_C (rup_ b_c.out) hb);replace b_y:=a_a.mk (Kd.a_C (rup_ b_y.out) hb);replace HB:=a_a.mk (a_i (lup_ HB.out) hb);clear hb hbox hg;obtain ⟨f_U,f_w,l_L⟩:=Kd.a_V b_y.out;subst l_L;have k_9 : w113.cell? ⟨b_Z,0,none⟩ = some (.slice none 0 0):=(a_m b_e.out 0).trans rfl;have l_i:=a_j b_e.out 0)|((with_reducible refine a_B (N:=86) rfl ?_);(try (refine a_D (by rfl) ?_;dsimp only));refine Kd.e_F (Kd.int .u8) _ 5 ?hg (N:=86) ?hd (xs:=([] : List Int)) (inner:=[]) (ok:=fun _ => True) (okp:=fun _ => True) ?hr ?hp (fun _ hk => hk) trivial (Below.refl _ _) (Nat.le_refl _) (by simp) ?_;(case hd => rfl);(case hg => rfl);(case hr => first|(go_simp;done)|(go_simp;rfl));(case hp => exact (Reps.none _ _));intro v454 w116 ho117 hb hg_ hnew_;clear hg_ hnew_;(first|rw [← Ny453.out] at ho117|(simp only [Int.reduceToNat] at ho117;rw [← Ny453.out] at ho117));have d_R:=a_a.mk (Kd.a_S (Kd.d_A ho117 (Kd.R_lt (by (with_reducible repeat (first|apply Kd.a_G|apply Kd.a_H|apply Kd.a_O));exact (Kd.a_Q (Kd.b_a (p:=⟨b_Z,0,none⟩) (Kd.a_N b_c.out b_e.out (by decide)) (fun _ hk => hk.2) (.slice f_U t448.length f_w)) (fun _ h_ => h_.1))))) (a_g (by repeat (first|(with_reducible first|exact HB.out|apply a_c|apply a_b|apply a_d|refine a_e ?_ c_c.out)|exact HB.out))));replace b_c:=a_a.mk (Kd.c_z (by (with_reducible repeat (first|apply Kd.a_G|apply Kd.a_H|apply Kd.a_O));exact (Kd.a_Q (Kd.b_a (p:=⟨b_Z,0,none⟩) (Kd.a_N b_c.out b_e.out (by decide)) (fun _ hk => hk.2) (.slice f_U t448.length f_w)) (fun _ h_ => h_.1))) (Kd.d_z ho117) hb);replace b_y:=a_a.mk (Kd.a_C (by (with_reducible repeat (first|apply Kd.a_G|apply Kd.a_H|apply Kd.a_O));exact (Kd.a_Q (Kd.b_a (p:=⟨b_Z,0,none⟩) (Kd.a_N b_y.out b_e.out (by decide)) (fun _ hk => hk.2) (.slice f_U t448.length f_w)) (fun _ h_ => h_.1))) hb);replace b_e:=a_a.mk (a_p (g:=b_Z) (o:=.cells #[.slice f_U t448.length f_w] 24 (0,0)) (by (with_reducible repeat (first|refine a_l ?_ _|refine a_o ?_|refine a_k ?_ _));refine a_R (cs:=#[.slice none 0 0]) ?_ 0 _ rfl;(with_reducible repeat (first|refine a_l ?_ _|refine a_o ?_|refine a_k ?_ _));exact b_e.out) hb);replace HB:=a_a.mk (a_i (by repeat (first|(with_reducible first|exact HB.out|apply a_c|apply a_b|apply a_d|refine a_e ?_ c_c.out)|exact HB.out)) hb);clear hb ho117)|((with_reducible refine b_C (b:=.append) (xs:=#[.tmp 86,.tmp 87]) rfl ?_);(try (refine a_D (by rfl) ?_;dsimp only));at_builtin;refine Kd.b_v (Kd.int .u8) (w0:=w) w.heap.size rfl (.tmp 86) (.tmp 87) 25 5 (.int .u8 0) 1 rfl Tryd.underlying25 info5 rfl (by decide) (by omega) v454 y453 y445 _ _ _ (fun k_ => some k_ ≠ (.slice k_u y445.length k_M : Value).ownBlock) (fun _ => False) rfl rfl ?aO ?aR (fun _ _ h => h) (fun _ h => h.elim) ?aF ?aB ?aS ?aL ?_;(case aR => repeat (first|exact (Kd.a_v b_c.out).2.2|(with_reducible refine Kd.a_I ?_ _)|(with_reducible refine Kd.a_J ?_ _)|(with_reducible refine Kd.a_T ?_)));(case aB => exact (by repeat (first|(with_reducible first|exact HB.out|apply a_c|apply a_b|apply a_d|refine a_e ?_ c_c.out)|exact HB.out)));(case aF => exact (fun k_ hk => Kd.fresh' (Kd.R_lt (rup_ b_c.out)) k_ hk));(case aO => exact (by (with_reducible repeat (first|apply Kd.a_G|apply Kd.a_H|apply Kd.a_O));exact Kd.a_Q d_R.out (fun _ hk => hk.2)));(case aS => exact (a_g (by repeat (first|(with_reducible first|exact HB.out|apply a_c|apply a_b|apply a_d|refine a_e ?_ c_c.out)|exact HB.out))));(case aL => have:=LMc102.out;omega);intro v457 w118 ho hb hg hat;rw [← Ny456.out] at ho;have c_x:=a_a.mk (ho);replace b_c:=a_a.mk (Kd.e_E (ok:=(fun _ => True)) (rup_ b_c.out) hg hat);replace b_y:=a_a.mk (Kd.g_s (rup_ b_y.out) (Kd.g_t (rup_ d_R.out)) (by decide) hg);replace b_e:=a_a.mk (b_x (g:=b_Z) (o:=.cells #[.slice f_U t448.length f_w] 24 (0,0)) (bup_ b_e.out) hg (Kd.R_ne d_R.out b_e.out (by decide)));replace HB:=a_a.mk (hb);clear d_R ho hb hg hat;obtain ⟨l_q,l_H,l_M⟩:=Kd.a_V c_x.out;subst l_M)|((with_reducible refine a_y (f:=36) rfl ?_);refine a_U (some 89) rfl rfl Tryd.func36 (by kernel_rfl) rfl #[.slice l_q y456.length l_H] rfl (by (try simp only [List.map_toArray,List.map_cons,List.map_nil]);first|done|rfl|(simp only [List.length_drop,List.length_take];rfl)) ?_;(with_reducible refine (a_h.calls k2 _ _ y456 t459 t462 _ ?side1 ?side2 A103.out).mono ?_);(case side1 => repeat (first|exact (Kd.a_v c_x.out).2.2|(with_reducible refine Kd.a_I ?_ _)|(with_reducible refine Kd.a_J ?_ _)|(with_reducible refine Kd.a_T ?_)));(case side2 => exact (Kd.a_v c_x.out).2.1);rintro e w120 ⟨v460,rfl,ho0,hb⟩;refine ⟨_,rfl,?_⟩;have c_0:=a_a.mk (Kd.a_S (Kd.d_A ho0 (Kd.R_lt (rup_ b_y.out))) (a_g (by repeat (first|(with_reducible first|exact HB.out|apply a_c|apply a_b|apply a_d|refine a_e ?_ c_c.out)|exact HB.out))));replace b_c:=a_a.mk (Kd.a_C (rup_ b_c.out) hb);replace b_y:=a_a.mk (Kd.c_z (rup_ b_y.out) (Kd.d_z ho0) hb);replace c_x:=a_a.mk (Kd.a_C (rup_ c_x.out) hb);replace b_e:=a_a.mk (a_p (bup_ b_e.out) hb);replace HB:=a_a.mk (a_i (by repeat (first|(with_reducible first|exact HB.out|apply a_c|apply a_b|apply a_d|refine a_e ?_ c_c.out)|exact HB.out)) hb);(try clear hb);(try clear hb2);(try clear hk);(try clear hi);(try clear ho0))|((with_reducible refine a_B (N:=16) rfl ?_);(try (refine a_D (by rfl) ?_;dsimp only));refine a_A ?hg (N:=16) ?hd (cs:=#[.slice none 0 0]) (t:=24) ?hr ?_;(case hd => rfl);(case hg => rfl);(case hr => first|(go_simp;done)|(go_simp;rfl));intro c_i hg w121 hbox hb;have c_H:=a_a.mk (hbox);have k_B:=a_a.mk ((by rw [hg];exact (a_g (by repeat (first|(with_reducible first|exact HB.out|apply a_c|apply a_b|apply a_d|refine a_e ?_ c_c.out)|exact HB.out))) : w.heap.size ≤ c_i));have g_q:=a_a.mk ((by rw [hg];exact (a_g (by repeat (first|(with_reducible first|exact HB.out|apply a_c|apply a_b|apply a_d|refine a_e ?_ c_c.out)|exact HB.out))) : w.heap.size ≤ c_i));have c_M:=a_a.mk ((by rw [hg];exact Nat.ne_of_lt (a_M (bup_ b_e.out)) : b_Z ≠ c_i));have d_g:=a_a.mk ((by rw [hg];exact Nat.ne_of_gt (a_M (bup_ b_e.out)) : c_i ≠ b_Z));replace b_c:=a_a.mk (Kd.a_C (rup_ b_c.out) hb);replace b_y:=a_a.mk (Kd.a_C (rup_ b_y.out) hb);replace c_x:=a_a.mk (Kd.a_C (rup_ c_x.out) hb);replace c_0:=a_a.mk (Kd.a_C (rup_ c_0.out) hb);replace b_e:=a_a.mk (a_p (bup_ b_e.out) hb);replace HB:=a_a.mk (a_i (by repeat (first|(with_reducible first|exact HB.out|apply a_c|apply a_b|apply a_d|refine a_e ?_ c_c.out)|exact HB.out)) hb);clear hb hbox hg;obtain ⟨f_V,f_x,l_N⟩:=Kd.a_V c_0.out;subst l_N;have m_3:=d_g.out;have m_6:=c_M.out;have l_a : w121.cell? ⟨c_i,0,none⟩ = some (.slice none 0 0):=(a_m c_H.out 0).trans rfl;have l_j:=a_j c_H.out 0;have l_b : w121.cell? ⟨b_Z,0,none⟩ = some (.slice f_U t448.length f_w):=(a_m b_e.out 0).trans rfl;have l_k:=a_j b_e.out 0)|(go_at_call 24;(with_reducible refine (a_t.calls k2 _ _ t448 _ _ t459 true _ ?side1 ?side2 ?side3 ?side4 A105.out).mono ?_);(case side1 => refine (Kd.a_v (e:=56) (base:=w.heap.size) (ok:=fun k_ => (True ∧ some k_ ≠ (.slice f_V t459.length f_x : Value).ownBlock)) (n:=t448.length) (c:=f_w) ?_).2.2;exact (by (with_reducible repeat (first|apply Kd.a_G|apply Kd.a_H|apply Kd.a_O));exact (Kd.a_Q (Kd.b_a (p:=⟨c_i,0,none⟩) (Kd.a_N b_y.out c_H.out (by decide)) (fun _ hk => hk.2) (.slice f_V t459.length f_x)) (fun _ h_ => h_.1))));(case side2 => exact (Kd.a_v b_y.out).2.1);(case side3 => refine (Kd.a_v (e:=56) (base:=w.heap.size) (ok:=fun k_ => (True ∧ some k_ ≠ (.slice f_U t448.length f_w : Value).ownBlock)) (n:=t459.length) (c:=f_x) ?_).2.2;exact (by (with_reducible repeat (first|apply Kd.a_G|apply Kd.a_H|apply Kd.a_O));exact (Kd.a_Q (Kd.b_a (p:=⟨c_i,0,none⟩) (Kd.a_N c_0.out c_H.out (by decide)) (fun _ hk => hk.2) (.slice f_V t459.length f_x)) (fun _ h_ => h_.1))));(case side4 => exact (Kd.a_v c_0.out).2.1);rintro e w126 ⟨rfl,hb⟩;replace b_c:=a_a.mk (Kd.a_C (by (with_reducible repeat (first|apply Kd.a_G|apply Kd.a_H|apply Kd.a_O));exact (Kd.a_Q (Kd.b_a (p:=⟨c_i,0,none⟩) (Kd.a_N b_c.out c_H.out (by decide)) (fun _ hk => hk.2) (.slice f_V t459.length f_x)) (fun _ h_ => h_.1))) hb);replace b_y:=a_a.mk (Kd.a_C (by (with_reducible repeat (first|apply Kd.a_G|apply Kd.a_H|apply Kd.a_O));exact (Kd.a_Q (Kd.b_a (p:=⟨c_i,0,none⟩) (Kd.a_N b_y.out c_H.out (by decide)) (fun _ hk => hk.2) (.slice f_V t459.length f_x)) (fun _ h_ => h_.1))) hb);replace c_x:=a_a.mk (Kd.a_C (by (with_reducible repeat (first|apply Kd.a_G|apply Kd.a_H|apply Kd.a_O));exact (Kd.a_Q (Kd.b_a (p:=⟨c_i,0,none⟩) (Kd.a_N c_x.out c_H.out (by decide)) (fun _ hk => hk.2) (.slice f_V t459.length f_x)) (fun _ h_ => h_.1))) hb);replace c_0:=a_a.mk (Kd.a_C (by (with_reducible repeat (first|apply Kd.a_G|apply Kd.a_H|apply Kd.a_O));exact (Kd.a_Q (Kd.b_a (p:=⟨c_i,0,none⟩) (Kd.a_N c_0.out c_H.out (by decide)) (fun _ hk => hk.2) (.slice f_V t459.length f_x)) (fun _ h_ => h_.1))) hb);replace b_e:=a_a.mk (a_p (g:=b_Z) (o:=.cells #[.slice f_U t448.length f_w] 24 (0,0)) (by (with_reducible repeat (first|refine a_l ?_ _|refine a_o ?_|refine a_k ?_ _));refine a_9 ?_ c_M.out _;(with_reducible repeat (first|refine a_l ?_ _|refine a_o ?_|refine a_k ?_ _));exact b_e.out) hb);replace c_H:=a_a.mk (a_p (g:=c_i) (o:=.cells #[.slice f_V t459.length f_x] 24 (0,0)) (by (with_reducible repeat (first|refine a_l ?_ _|refine a_o ?_|refine a_k ?_ _));refine a_R (cs:=#[.slice none 0 0]) ?_ 0 _ rfl;(with_reducible repeat (first|refine a_l ?_ _|refine a_o ?_|refine a_k ?_ _));exact c_H.out) hb);replace HB:=a_a.mk (a_i (by repeat (first|(with_reducible first|exact HB.out|apply a_c|apply a_b|apply a_d|refine a_e ?_ c_c.out|refine a_e ?_ g_q.out)|exact HB.out)) hb);(try clear hb);(try clear hb2);(try clear hk);(try clear hi)))
      go_roundg k2
      case measure => have:=HJ4.out;have:=HK2.out;omega
      case rel => exact ⟨(wrap64 (x66_2 + 1)),(by first|rfl|(simp;done)|(simp [*];done)),H',⟨by have:=HJ4.out;have:=HK2.out;omega⟩,⟨by repeat (first|(with_reducible first|exact HB.out|apply a_c|apply a_b|apply a_d|refine a_e ?_ c_c.out|refine a_e ?_ g_q.out)|exact HB.out)⟩⟩
     replace c106:=Bool.eq_false_iff.mpr c106
     subst c106
     have H1 : (some false) = some r:=by rw [if_neg (show ¬ (false = true) by decide)] at H;exact H
     clear H
     have H:=H1
     clear H1
     obtain rfl:=Option.some.inj H
     have p440 : 0 ≤ (x66_2 : Int):=of_decide_eq_true (by first|(with_reducible assumption)|assumption)
     have q440 : x66_2 < (l1.length : Int):=of_decide_eq_true (by first|(with_reducible assumption)|assumption)
     obtain ⟨ad440,A440_0,c440_0,e440,c_j,c_P,c_O⟩:=j_i HR1.out x66_2 p440 q440
     cases e440
     replace c_j:=(HB.out.cell (World.block_lt_of_cell? w _ c_j)).trans c_j
     have d_7:=a_a.mk c_O
     have d_5:=a_a.mk c_P
     clear c_O c_P
     replace p440:=eq_true p440
     replace q440:=eq_true q440
     go_wp2_with (first|((with_reducible refine a_B (N:=73) rfl ?_);(try (refine a_D (by rfl) ?_;dsimp only));refine Kd.e_F (Kd.int .u8) _ 5 ?hg (N:=73) ?hd (xs:=([] : List Int)) (inner:=[]) (ok:=fun _ => True) (okp:=fun _ => True) ?hr ?hp (fun _ hk => hk) trivial (Below.refl _ _) (Nat.le_refl _) (by simp) ?_;(case hd => rfl);(case hg => rfl);(case hr => first|(go_simp;done)|(go_simp;rfl));(case hp => exact (Reps.none _ _));intro v442 w127 ho128 hb hg_ hnew_;clear hg_ hnew_;(first|rw [← Ny441.out] at ho128|(simp only [Int.reduceToNat] at ho128;rw [← Ny441.out] at ho128));have f_1:=a_a.mk (Kd.a_S ho128 (a_g (lup_ HB.out)));replace HB:=a_a.mk (a_i (lup_ HB.out) hb);clear hb ho128;obtain ⟨i0129,j_P,_,hsz129,_⟩:=info_parts info5;obtain ⟨hcut129,hA129,hC129⟩:=c_3 (P:=Tryd.prog) (Value.int .u8) 0 25 5 .i64 Tryd.underlying25 j_P hsz129 A440_0 c440_0 (b_h l1 x66_2) (ji97) (of_decide_eq_true (by first|(with_reducible assumption)|assumption)) (of_decide_eq_true (by first|(with_reducible assumption)|assumption)) d_5.out;have e_y:=a_a.mk (Kd.d_4 (h1:=fun _ => rfl) (hA129 _ (Kd.c_Y d_7.out)));have k_C:=a_a.mk hC129;clear hA129 hC129 j_P hsz129)|((with_reducible refine b_C (b:=.append) (xs:=#[.tmp 73,.tmp 78]) rfl ?_);(try (refine a_D (by rfl) ?_;dsimp only));at_builtin;refine Kd.b_v (Kd.int .u8) (w0:=w) w.heap.size rfl (.tmp 73) (.tmp 78) 25 5 (.int .u8 0) 1 rfl Tryd.underlying25 info5 rfl (by decide) (by omega) v442 y441 ((b_h l1 x66_2).take ((ji97) : Int).toNat) _ _ _ (fun _ => True) (fun _ => False) rfl rfl ?aO ?aR (fun _ _ h => h) (fun _ h => h.elim) ?aF ?aB ?aS ?aL ?_;(case aR => first|(refine h_E (show ((b_h l1 x66_2).take ((ji97) : Int).toNat).length = (ji97).toNat from (by rw [List.length_take];have h_ : ((ji97) : Int) ≤ ((b_h l1 x66_2).length : Int):=of_decide_eq_true (by first|(with_reducible assumption)|assumption);omega)) ?_;repeat (first|exact (Kd.a_P e_y.out HB.out)|(with_reducible refine Kd.a_I ?_ _)|(with_reducible refine Kd.a_J ?_ _)|(with_reducible refine Kd.a_T ?_)))|(rw [← show ((b_h l1 x66_2).take ((ji97) : Int).toNat).length = (ji97).toNat from (by rw [List.length_take];have h_ : ((ji97) : Int) ≤ ((b_h l1 x66_2).length : Int):=of_decide_eq_true (by first|(with_reducible assumption)|assumption);omega)];repeat (first|exact (Kd.a_P e_y.out HB.out)|(with_reducible refine Kd.a_I ?_ _)|(with_reducible refine Kd.a_J ?_ _)|(with_reducible refine Kd.a_T ?_)))|(repeat (first|exact (Kd.a_P e_y.out HB.out)|(with_reducible refine Kd.a_I ?_ _)|(with_reducible refine Kd.a_J ?_ _)|(with_reducible refine Kd.a_T ?_))));(case aB => exact (lup_ HB.out));(case aF => exact (fun _ _ => trivial));(case aO => exact (rup_ f_1.out));(case aS => exact (a_g (lup_ HB.out)));(case aL => have:=LMc100.out;have hlx_:=(show ((b_h l1 x66_2).take ((ji97) : Int).toNat).length = (ji97).toNat from (by rw [List.length_take];have h_ : ((ji97) : Int) ≤ ((b_h l1 x66_2).length : Int):=of_decide_eq_true (by first|(with_reducible assumption)|assumption);omega));omega);intro v446 w130 ho hb hg hat;rw [← Ny445.out] at ho;have b_c:=a_a.mk (ho);replace HB:=a_a.mk (hb);clear f_1 ho hb hg hat;obtain ⟨k_v,k_N,l_O⟩:=Kd.a_V b_c.out;subst l_O)|((with_reducible refine a_y (f:=13) rfl ?_);refine a_U (some 82) rfl rfl Tryd.func13 (by kernel_rfl) rfl #[.slice k_v y445.length k_N] rfl (by (try simp only [List.map_toArray,List.map_cons,List.map_nil]);first|done|rfl|(simp only [List.length_drop,List.length_take];rfl)) ?_;(with_reducible refine (a_w.calls k2 _ _ y445 t448 t451 _ ?side1 ?side2 A101.out).mono ?_);(case side1 => repeat (first|exact (Kd.a_v b_c.out).2.2|(with_reducible refine Kd.a_I ?_ _)|(with_reducible refine Kd.a_J ?_ _)|(with_reducible refine Kd.a_T ?_)));(case side2 => exact (Kd.a_v b_c.out).2.1);rintro e w132 ⟨v449,rfl,ho0,hb⟩;refine ⟨_,rfl,?_⟩;have b_y:=a_a.mk (Kd.a_S ho0 (a_g (lup_ HB.out)));replace b_c:=a_a.mk (Kd.a_C (rup_ b_c.out) hb);replace HB:=a_a.mk (a_i (lup_ HB.out) hb);(try clear hb);(try clear hb2);(try clear hk);(try clear hi);(try clear ho0))|((with_reducible refine a_B (N:=14) rfl ?_);(try (refine a_D (by rfl) ?_;dsimp only));refine a_A ?hg (N:=14) ?hd (cs:=#[.slice none 0 0]) (t:=24) ?hr ?_;(case hd => rfl);(case hg => rfl);(case hr => first|(go_simp;done)|(go_simp;rfl));intro b_Z hg w133 hbox hb;have b_e:=a_a.mk (hbox);have k_A:=a_a.mk ((by rw [hg];exact (a_g (lup_ HB.out)) : w.heap.size ≤ b_Z));have c_c:=a_a.mk ((by rw [hg];exact (a_g (lup_ HB.out)) : w.heap.size ≤ b_Z));replace b_c:=a_a.mk (Kd.a_C (rup_ b_c.out) hb);replace b_y:=a_a.mk (Kd.a_C (rup_ b_y.out) hb);replace HB:=a_a.mk (a_i (lup_ HB.out) hb);clear hb hbox hg;obtain ⟨f_W,f_y,l_P⟩:=Kd.a_V b_y.out;subst l_P;have l_d : w133.cell? ⟨b_Z,0,none⟩ = some (.slice none 0 0):=(a_m b_e.out 0).trans rfl;have l_l:=a_j b_e.out 0)|((with_reducible refine a_B (N:=86) rfl ?_);(try (refine a_D (by rfl) ?_;dsimp only));refine Kd.e_F (Kd.int .u8) _ 5 ?hg (N:=86) ?hd (xs:=([] : List Int)) (inner:=[]) (ok:=fun _ => True) (okp:=fun _ => True) ?hr ?hp (fun _ hk => hk) trivial (Below.refl _ _) (Nat.le_refl _) (by simp) ?_;(case hd => rfl);(case hg => rfl);(case hr => first|(go_simp;done)|(go_simp;rfl));(case hp => exact (Reps.none _ _));intro v454 w136 ho137 hb hg_ hnew_;clear hg_ hnew_;(first|rw [← Ny453.out] at ho137|(simp only [Int.reduceToNat] at ho137;rw [← Ny453.out] at ho137));have d_R:=a_a.mk (Kd.a_S (Kd.d_A ho137 (Kd.R_lt (by (with_reducible repeat (first|apply Kd.a_G|apply Kd.a_H|apply Kd.a_O));exact (Kd.a_Q (Kd.b_a (p:=⟨b_Z,0,none⟩) (Kd.a_N b_c.out b_e.out (by decide)) (fun _ hk => hk.2) (.slice f_W t448.length f_y)) (fun _ h_ => h_.1))))) (a_g (by repeat (first|(with_reducible first|exact HB.out|apply a_c|apply a_b|apply a_d|refine a_e ?_ c_c.out)|exact HB.out))));replace b_c:=a_a.mk (Kd.c_z (by (with_reducible repeat (first|apply Kd.a_G|apply Kd.a_H|apply Kd.a_O));exact (Kd.a_Q (Kd.b_a (p:=⟨b_Z,0,none⟩) (Kd.a_N b_c.out b_e.out (by decide)) (fun _ hk => hk.2) (.slice f_W t448.length f_y)) (fun _ h_ => h_.1))) (Kd.d_z ho137) hb);replace b_y:=a_a.mk (Kd.a_C (by (with_reducible repeat (first|apply Kd.a_G|apply Kd.a_H|apply Kd.a_O));exact (Kd.a_Q (Kd.b_a (p:=⟨b_Z,0,none⟩) (Kd.a_N b_y.out b_e.out (by decide)) (fun _ hk => hk.2) (.slice f_W t448.length f_y)) (fun _ h_ => h_.1))) hb);replace b_e:=a_a.mk (a_p (g:=b_Z) (o:=.cells #[.slice f_W t448.length f_y] 24 (0,0)) (by (with_reducible repeat (first|refine a_l ?_ _|refine a_o ?_|refine a_k ?_ _));refine a_R (cs:=#[.slice none 0 0]) ?_ 0 _ rfl;(with_reducible repeat (first|refine a_l ?_ _|refine a_o ?_|refine a_k ?_ _));exact b_e.out) hb);replace HB:=a_a.mk (a_i (by repeat (first|(with_reducible first|exact HB.out|apply a_c|apply a_b|apply a_d|refine a_e ?_ c_c.out)|exact HB.out)) hb);clear hb ho137)|((with_reducible refine b_C (b:=.append) (xs:=#[.tmp 86,.tmp 87]) rfl ?_);(try (refine a_D (by rfl) ?_;dsimp only));at_builtin;refine Kd.b_v (Kd.int .u8) (w0:=w) w.heap.size rfl (.tmp 86) (.tmp 87) 25 5 (.int .u8 0) 1 rfl Tryd.underlying25 info5 rfl (by decide) (by omega) v454 y453 y445 _ _ _ (fun k_ => some k_ ≠ (.slice k_v y445.length k_N : Value).ownBlock) (fun _ => False) rfl rfl ?aO ?aR (fun _ _ h => h) (fun _ h => h.elim) ?aF ?aB ?aS ?aL ?_;(case aR => repeat (first|exact (Kd.a_v b_c.out).2.2|(with_reducible refine Kd.a_I ?_ _)|(with_reducible refine Kd.a_J ?_ _)|(with_reducible refine Kd.a_T ?_)));(case aB => exact (by repeat (first|(with_reducible first|exact HB.out|apply a_c|apply a_b|apply a_d|refine a_e ?_ c_c.out)|exact HB.out)));(case aF => exact (fun k_ hk => Kd.fresh' (Kd.R_lt (rup_ b_c.out)) k_ hk));(case aO => exact (by (with_reducible repeat (first|apply Kd.a_G|apply Kd.a_H|apply Kd.a_O));exact Kd.a_Q d_R.out (fun _ hk => hk.2)));(case aS => exact (a_g (by repeat (first|(with_reducible first|exact HB.out|apply a_c|apply a_b|apply a_d|refine a_e ?_ c_c.out)|exact HB.out))));(case aL => have:=LMc102.out;omega);intro v457 w138 ho hb hg hat;rw [← Ny456.out] at ho;have c_x:=a_a.mk (ho);replace b_c:=a_a.mk (Kd.e_E (ok:=(fun _ => True)) (rup_ b_c.out) hg hat);replace b_y:=a_a.mk (Kd.g_s (rup_ b_y.out) (Kd.g_t (rup_ d_R.out)) (by decide) hg);replace b_e:=a_a.mk (b_x (g:=b_Z) (o:=.cells #[.slice f_W t448.length f_y] 24 (0,0)) (bup_ b_e.out) hg (Kd.R_ne d_R.out b_e.out (by decide)));replace HB:=a_a.mk (hb);clear d_R ho hb hg hat;obtain ⟨l_r,l_I,l_Q⟩:=Kd.a_V c_x.out;subst l_Q)|((with_reducible refine a_y (f:=36) rfl ?_);refine a_U (some 89) rfl rfl Tryd.func36 (by kernel_rfl) rfl #[.slice l_r y456.length l_I] rfl (by (try simp only [List.map_toArray,List.map_cons,List.map_nil]);first|done|rfl|(simp only [List.length_drop,List.length_take];rfl)) ?_;(with_reducible refine (a_h.calls k2 _ _ y456 t459 t462 _ ?side1 ?side2 A103.out).mono ?_);(case side1 => repeat (first|exact (Kd.a_v c_x.out).2.2|(with_reducible refine Kd.a_I ?_ _)|(with_reducible refine Kd.a_J ?_ _)|(with_reducible refine Kd.a_T ?_)));(case side2 => exact (Kd.a_v c_x.out).2.1);rintro e w140 ⟨v460,rfl,ho0,hb⟩;refine ⟨_,rfl,?_⟩;have c_0:=a_a.mk (Kd.a_S (Kd.d_A ho0 (Kd.R_lt (rup_ b_y.out))) (a_g (by repeat (first|(with_reducible first|exact HB.out|apply a_c|apply a_b|apply a_d|refine a_e ?_ c_c.out)|exact HB.out))));replace b_c:=a_a.mk (Kd.a_C (rup_ b_c.out) hb);replace b_y:=a_a.mk (Kd.c_z (rup_ b_y.out) (Kd.d_z ho0) hb);replace c_x:=a_a.mk (Kd.a_C (rup_ c_x.out) hb);replace b_e:=a_a.mk (a_p (bup_ b_e.out) hb);replace HB:=a_a.mk (a_i (by repeat (first|(with_reducible first|exact HB.out|apply a_c|apply a_b|apply a_d|refine a_e ?_ c_c.out)|exact HB.out)) hb);(try clear hb);(try clear hb2);(try clear hk);(try clear hi);(try clear ho0))|((with_reducible refine a_B (N:=16) rfl ?_);(try (refine a_D (by rfl) ?_;dsimp only));refine a_A ?hg (N:=16) ?hd (cs:=#[.slice none 0 0]) (t:=24) ?hr ?_;(case hd => rfl);(case hg => rfl);(case hr => first|(go_simp;done)|(go_simp;rfl));intro c_i hg w141 hbox hb;have c_H:=a_a.mk (hbox);have k_B:=a_a.mk ((by rw [hg];exact (a_g (by repeat (first|(with_reducible first|exact HB.out|apply a_c|apply a_b|apply a_d|refine a_e ?_ c_c.out)|exact HB.out))) : w.heap.size ≤ c_i));have g_q:=a_a.mk ((by rw [hg];exact (a_g (by repeat (first|(with_reducible first|exact HB.out|apply a_c|apply a_b|apply a_d|refine a_e ?_ c_c.out)|exact HB.out))) : w.heap.size ≤ c_i));have c_M:=a_a.mk ((by rw [hg];exact Nat.ne_of_lt (a_M (bup_ b_e.out)) : b_Z ≠ c_i));have d_g:=a_a.mk ((by rw [hg];exact Nat.ne_of_gt (a_M (bup_ b_e.out)) : c_i ≠ b_Z));replace b_c:=a_a.mk (Kd.a_C (rup_ b_c.out) hb);replace b_y:=a_a.mk (Kd.a_C (rup_ b_y.out) hb);replace c_x:=a_a.mk (Kd.a_C (rup_ c_x.out) hb);replace c_0:=a_a.mk (Kd.a_C (rup_ c_0.out) hb);replace b_e:=a_a.mk (a_p (bup_ b_e.out) hb);replace HB:=a_a.mk (a_i (by repeat (first|(with_reducible first|exact HB.out|apply a_c|apply a_b|apply a_d|refine a_e ?_ c_c.out)|exact HB.out)) hb);clear hb hbox hg;obtain ⟨f_X,f_z,l_R⟩:=Kd.a_V c_0.out;subst l_R;have m_4:=d_g.out;have m_7:=c_M.out;have l_e : w141.cell? ⟨c_i,0,none⟩ = some (.slice none 0 0):=(a_m c_H.out 0).trans rfl;have l_m:=a_j c_H.out 0;have l_f : w141.cell? ⟨b_Z,0,none⟩ = some (.slice f_W t448.length f_y):=(a_m b_e.out 0).trans rfl;have l_n:=a_j b_e.out 0)|(go_at_call 24;(with_reducible refine (a_t.calls k2 _ _ t448 _ _ t459 false _ ?side1 ?side2 ?side3 ?side4 A105.out).mono ?_);(case side1 => refine (Kd.a_v (e:=56) (base:=w.heap.size) (ok:=fun k_ => (True ∧ some k_ ≠ (.slice f_X t459.length f_z : Value).ownBlock)) (n:=t448.length) (c:=f_y) ?_).2.2;exact (by (with_reducible repeat (first|apply Kd.a_G|apply Kd.a_H|apply Kd.a_O));exact (Kd.a_Q (Kd.b_a (p:=⟨c_i,0,none⟩) (Kd.a_N b_y.out c_H.out (by decide)) (fun _ hk => hk.2) (.slice f_X t459.length f_z)) (fun _ h_ => h_.1))));(case side2 => exact (Kd.a_v b_y.out).2.1);(case side3 => refine (Kd.a_v (e:=56) (base:=w.heap.size) (ok:=fun k_ => (True ∧ some k_ ≠ (.slice f_W t448.length f_y : Value).ownBlock)) (n:=t459.length) (c:=f_z) ?_).2.2;exact (by (with_reducible repeat (first|apply Kd.a_G|apply Kd.a_H|apply Kd.a_O));exact (Kd.a_Q (Kd.b_a (p:=⟨c_i,0,none⟩) (Kd.a_N c_0.out c_H.out (by decide)) (fun _ hk => hk.2) (.slice f_X t459.length f_z)) (fun _ h_ => h_.1))));(case side4 => exact (Kd.a_v c_0.out).2.1);rintro e w146 ⟨rfl,hb⟩;replace b_c:=a_a.mk (Kd.a_C (by (with_reducible repeat (first|apply Kd.a_G|apply Kd.a_H|apply Kd.a_O));exact (Kd.a_Q (Kd.b_a (p:=⟨c_i,0,none⟩) (Kd.a_N b_c.out c_H.out (by decide)) (fun _ hk => hk.2) (.slice f_X t459.length f_z)) (fun _ h_ => h_.1))) hb);replace b_y:=a_a.mk (Kd.a_C (by (with_reducible repeat (first|apply Kd.a_G|apply Kd.a_H|apply Kd.a_O));exact (Kd.a_Q (Kd.b_a (p:=⟨c_i,0,none⟩) (Kd.a_N b_y.out c_H.out (by decide)) (fun _ hk => hk.2) (.slice f_X t459.length f_z)) (fun _ h_ => h_.1))) hb);replace c_x:=a_a.mk (Kd.a_C (by (with_reducible repeat (first|apply Kd.a_G|apply Kd.a_H|apply Kd.a_O));exact (Kd.a_Q (Kd.b_a (p:=⟨c_i,0,none⟩) (Kd.a_N c_x.out c_H.out (by decide)) (fun _ hk => hk.2) (.slice f_X t459.length f_z)) (fun _ h_ => h_.1))) hb);replace c_0:=a_a.mk (Kd.a_C (by (with_reducible repeat (first|apply Kd.a_G|apply Kd.a_H|apply Kd.a_O));exact (Kd.a_Q (Kd.b_a (p:=⟨c_i,0,none⟩) (Kd.a_N c_0.out c_H.out (by decide)) (fun _ hk => hk.2) (.slice f_X t459.length f_z)) (fun _ h_ => h_.1))) hb);replace b_e:=a_a.mk (a_p (g:=b_Z) (o:=.cells #[.slice f_W t448.length f_y] 24 (0,0)) (by (with_reducible repeat (first|refine a_l ?_ _|refine a_o ?_|refine a_k ?_ _));refine a_9 ?_ c_M.out _;(with_reducible repeat (first|refine a_l ?_ _|refine a_o ?_|refine a_k ?_ _));exact b_e.out) hb);replace c_H:=a_a.mk (a_p (g:=c_i) (o:=.cells #[.slice f_X t459.length f_z] 24 (0,0)) (by (with_reducible repeat (first|refine a_l ?_ _|refine a_o ?_|refine a_k ?_ _));refine a_R (cs:=#[.slice none 0 0]) ?_ 0 _ rfl;(with_reducible repeat (first|refine a_l ?_ _|refine a_o ?_|refine a_k ?_ _));exact c_H.out) hb);replace HB:=a_a.mk (a_i (by repeat (first|(with_reducible first|exact HB.out|apply a_c|apply a_b|apply a_d|refine a_e ?_ c_c.out|refine a_e ?_ g_q.out)|exact HB.out)) hb);(try clear hb);(try clear hb2);(try clear hk);(try clear hi)))
     go_ret
     exact ⟨by first|rfl|(simp [a_r,a_s] <;> rfl)|(simp only [← hji97];first|rfl|(simp [a_r,a_s] <;> rfl))|(simp [*, a_r,a_s] <;> rfl),by repeat (first|(with_reducible first|exact HB.out|apply a_c|apply a_b|apply a_d|refine a_e ?_ c_c.out|refine a_e ?_ g_q.out)|exact HB.out)⟩
end Go.Proofs.YtcpfcehfgenljaaDoor.Q
end
section
namespace Go.Proofs.YtcpfcehfgenljaaDoor.Pure
open Go.RowKit Go.Proofs.YtcpfcehfgenljaaDoor.Q Go.Proofs.YtcpfcehfgenljaaDoorW.PrintWords Go.Proofs.YtcpfcehfgenljaaDoorW.PrintLast Go.Proofs.YtcpfcehfgenljaaDoorW.PrintMore
set_option linter.unusedVariables false
set_option linter.unusedSimpArgs false
theorem c_7 (n : Nat) (h : n < 9223372036854775807) : wrap64 ((n : Int) + 1) = ((n + 1 : Nat) : Int):=by unfold wrap64;omega
theorem c_u (n : Int) (h0 : -9223372036854775808 ≤ n) (h1 : n ≤ 9223372036854775807) : wrap64 n = n:=by unfold wrap64;omega
theorem rdm {l pre suf : List S56} {x : S56} (h : l = pre ++ x :: suf) : a_u l (pre.length : Int) = x:=by subst h;simp [a_u]
theorem i_Z {α : Type} {l pre suf : List α} {x : α} (h : l = pre ++ x :: suf) : pre.length < l.length:=by subst h;simp
theorem e_0 {α : Type} {l pre suf : List α} {x : α} (h : l = pre ++ x :: suf) : l = (pre ++ [x]) ++ suf:=by simp [h]
theorem f_O {α : Type} {pre : List α} {x : α} (h : pre.length < 1000000000) : wrap64 ((pre.length : Int) + 1) = ((pre ++ [x]).length : Int):=by rw [c_7 pre.length (by omega)];simp
theorem g_h {α : Type} {l pre : List α} (h : l = pre ++ []) : pre.length = l.length:=by subst h;simp
theorem j_C : Ev (fun k => a_E.f k) true:=Ev.of a_E.mono (k:=100) (by kernel_rfl)
theorem k_q (l : List S56) : a_W.f l = some (l.take 9):=by
 have h : mn (l.length : Int) 9 = ((min l.length 9 : Nat) : Int):=by unfold mn;split <;> omega
 unfold a_W.f
 rw [h,if_pos (by omega),if_pos (by omega),Int.toNat_natCast]
 unfold a_8.f
 have e : l.take (min l.length 9) = l.take 9:=by rw [List.take_eq_take_iff];omega
 have hl : (l.take 9).length ≤ 9:=by rw [List.length_take];omega
 rw [e]
 simp only [Option.bind_some,List.nil_append,List.length_nil]
 rw [if_pos (by omega)]
 rfl
def eqv (x y : S56) : Bool:=x.f0 == y.f0 && (x.f1 == y.f1)
theorem j_4 {x y : S56} : eqv x y = true ↔ x = y:=by
 unfold eqv
 simp only [Bool.and_eq_true,beq_iff_eq]
 constructor
 ·rintro ⟨h0,h1⟩;cases x;cases y;simp_all
 rintro rfl;exact ⟨rfl,rfl⟩
def eqL : List S56 → List S56 → Bool
 | [],[] => true
 | x :: a,y :: b => eqv x y && eqL a b
 | _,_ => false
theorem g_w : ∀ {a b : List S56}, eqL a b = true ↔ a = b
 | [],[] => by simp [eqL]
 | x :: a,y :: b => by rw [eqL,Bool.and_eq_true,j_4,g_w,List.cons_eq_cons]
 | [],y :: b => by simp [eqL]
 | x :: a,[] => by simp [eqL]
theorem j_o (a : List S56) : eqL a a = true:=g_w.2 rfl
theorem j_3 : ∀ {a b : List S56}, a.length ≠ b.length → eqL a b = false:=fun {a b} h => by
 cases e : eqL a b
 ·rfl
 ·exact absurd (congrArg List.length (g_w.1 e)) h
theorem i_3 (A B : List S56) (hA : A.length ≤ 100000) : ∀ (a b p q : List S56),A = p ++ a → B = q ++ b → p.length = q.length → a.length = b.length → Ev (fun k => a_t.l0 k (A.length : Int) (p.length : Int) A B) (eqL a b)
 | [],[],p,q,h1,h2,h3,h4 => by
  have:=g_h h1
  refine Ev.step (f:=fun _ => some true) (fun k => ?_) (Ev.now _)
  rw [a_t.l0,if_neg (by omega)]
 | x :: a,y :: b,p,q,h1,h2,h3,h4 => by
  have i1:=i_Z h1
  have i2:=i_Z h2
  have ih:=i_3 A B hA a b (p ++ [x]) (q ++ [y]) (e_0 h1) (e_0 h2) (by simp [h3]) (by simpa using h4)
  have r2 : a_u B (p.length : Int) = y:=by rw [h3];exact rdm h2
  refine Ev.step (f:=fun k => if eqv x y = true then a_t.l0 k (A.length : Int) ((p ++ [x]).length : Int) A B else some false) (fun k => ?_) ?_
  ·rw [a_t.l0,if_pos (by omega),if_pos (by omega),if_pos (by omega),if_pos (by omega),rdm h1,r2,f_O (x:=x) (by omega)]
   unfold eqv
   cases (x.f0 == y.f0) <;> cases (x.f1 == y.f1) <;> rfl
  ·rw [eqL]
   cases eqv x y
   ·exact Ev.now _
   ·simpa using ih
 | [],y :: b,p,q,h1,h2,h3,h4 => by simp at h4
 | x :: a,[],p,q,h1,h2,h3,h4 => by simp at h4
theorem k_o (A B : List S56) (hA : A.length ≤ 100000) : Ev (fun k => a_t.f k A B) (eqL A B):=by
 unfold a_t.f
 by_cases h : A.length = B.length
 ·simp only [if_pos (show (A.length : Int) = (B.length : Int) by omega)]
  exact i_3 A B hA A B [] [] rfl rfl rfl h
 simp only [if_neg (show ¬ (A.length : Int) = (B.length : Int) by omega),j_3 h]
 exact Ev.now _
theorem i_V (l : List S56) : okT l = (decide (1 ≤ l.length) && decide (l.length ≤ 8) && !l.any e_3):=rfl
theorem h_j (l : List S56) (hl : l.length ≤ 100000) : ∀ (suf pre : List S56),l = pre ++ suf → Ev (fun k => a_n.l0 k l (l.length : Int) (pre.length : Int) l) (!suf.any e_3 && (decide (1 ≤ l.length) && decide (l.length ≤ 8)))
 | [],pre,h => by
  have:=g_h h
  refine Ev.step (f:=fun _ => some (decide (1 ≤ l.length) && decide (l.length ≤ 8))) (fun k => ?_) (by simpa using Ev.now _)
  rw [a_n.l0,if_neg (by omega)]
  by_cases h1 : 1 ≤ l.length
  ·rw [if_pos (by omega),decide_eq_true h1,Bool.true_and];congr 1;rw [decide_eq_decide];omega
  ·rw [if_neg (by omega),decide_eq_false h1,Bool.false_and]
 | x :: suf,pre,h => by
  have hlt:=i_Z h
  have ih:=h_j l hl suf (pre ++ [x]) (e_0 h)
  refine Ev.step (f:=fun k => if e_3 x = true then some false else a_n.l0 k l (l.length : Int) ((pre ++ [x]).length : Int) l) (fun k => ?_) ?_
  ·rw [a_n.l0,if_pos (by omega),if_pos (by omega),if_pos (by omega),rdm h,f_O (x:=x) (by omega)]
   unfold e_3
   by_cases c0 : x.f0 < 0
   ·rw [if_pos c0,decide_eq_true c0];rfl
   by_cases c1 : x.f0 ≥ 4
   ·rw [if_neg c0,if_pos c1,decide_eq_true c1,Bool.or_true];rfl
   by_cases c2 : x.f1 < 0
   ·rw [if_neg c0,if_neg c1,if_pos c2,decide_eq_true c2,Bool.or_true];rfl
   rw [if_neg c0,if_neg c1,if_neg c2,decide_eq_false c0,decide_eq_false c1,decide_eq_false c2]
   by_cases c3 : x.f1 ≥ 8
   ·rw [if_pos c3,decide_eq_true c3];rfl
   ·rw [if_neg c3,decide_eq_false c3];rfl
  ·rw [List.any_cons]
   cases e_3 x
   ·simpa using ih
   ·exact Ev.now _
theorem h_h (l : List S56) (hl : l.length ≤ 100000) : Ev (fun k => a_n.f k l) (okT l):=by
 unfold a_n.f
 have:=h_j l hl l [] rfl
 rw [i_V,Bool.and_comm]
 exact this
theorem i_W {l : List S56} (h : okT l = true) : 1 ≤ l.length ∧ l.length ≤ 8:=by
 rw [i_V] at h
 simp only [Bool.and_eq_true,decide_eq_true_eq] at h
 exact h.1
def encS (x : S56) : List Int:=[x.f0 % 256,x.f1 % 256]
def encB (l : List S56) : List Int:=((l.length : Int) % 256) :: l.flatMap encS
theorem j_r (l : List S56) : (l.flatMap encS).length = 2 * l.length:=by
 induction l with
 | nil => rfl
 | cons x l ih => rw [List.flatMap_cons,List.length_append,ih];simp [encS];omega
theorem j_m (l : List S56) : (encB l).length = 1 + 2 * l.length:=by unfold encB;rw [List.length_cons,j_r];omega
theorem j_J (l : List S56) (hl : l.length ≤ 100000) : ∀ (suf pre : List S56) (out : List Int),l = pre ++ suf → out.length ≤ 1 + 2 * pre.length → Ev (fun k => a_z.l0 k out l (l.length : Int) (pre.length : Int)) (out ++ suf.flatMap encS,0)
 | [],pre,out,h,ho => by
  have:=g_h h
  refine Ev.step (f:=fun _ => some (out ++ [],0)) (fun k => ?_) (by simpa using Ev.now _)
  rw [a_z.l0,if_neg (by omega),List.append_nil]
 | x :: suf,pre,out,h,ho => by
  have hlt:=i_Z h
  have ih:=j_J l hl suf (pre ++ [x]) (out ++ encS x) (e_0 h) (by simp [encS];omega)
  refine Ev.step (f:=fun k => a_z.l0 k (out ++ encS x) l (l.length : Int) ((pre ++ [x]).length : Int)) (fun k => ?_) (by simpa using ih)
  rw [a_z.l0,if_pos (by omega),if_pos (by omega),if_pos (by omega),rdm h,Option.bind_some,if_pos (by simp;omega),f_O (x:=x) (by omega)]
  rfl
theorem g_5 (l : List S56) (hl : l.length ≤ 100000) : Ev (fun k => a_z.f k l) (if okT l = true then (encB l,0) else ([],160)):=by
 unfold a_z.f
 simp only [c_6,Option.bind_some]
 cases h : okT l
 ·exact Ev.now _
 simpa [encB] using j_J l hl l [] [(l.length : Int) % 256] rfl (by simp)
theorem g_j (l : List S56) (hl : l.length ≤ 100000) : ∀ (suf pre : List S56) (out : List Int),l = pre ++ suf → out.length ≤ 1 + 2 * pre.length → Ev (fun k => a_q.l0 k out l (l.length : Int) (pre.length : Int)) (out ++ suf.flatMap encS)
 | [],pre,out,h,ho => by
  have:=g_h h
  refine Ev.step (f:=fun _ => some (out ++ [])) (fun k => ?_) (by simpa using Ev.now _)
  rw [a_q.l0,if_neg (by omega),List.append_nil]
 | x :: suf,pre,out,h,ho => by
  have hlt:=i_Z h
  have ih:=g_j l hl suf (pre ++ [x]) (out ++ encS x) (e_0 h) (by simp [encS];omega)
  refine Ev.step (f:=fun k => a_q.l0 k (out ++ encS x) l (l.length : Int) ((pre ++ [x]).length : Int)) (fun k => ?_) (by simpa using ih)
  rw [a_q.l0,if_pos (by omega),if_pos (by omega),if_pos (by omega),rdm h,Option.bind_some,if_pos (by simp;omega),f_O (x:=x) (by omega)]
  rfl
theorem j_z (l : List S56) (hl : l.length ≤ 100000) : Ev (fun k => a_q.f k l) (encB l):=by
 unfold a_q.f
 simpa [encB] using g_j l hl l [] [(l.length : Int) % 256] rfl (by simp)
def Byt (B : List Int) : Prop := ∀ x ∈ B,0 ≤ x ∧ x < 256
theorem e_j (l : List Int) : (strOfNums l).toList = l.map fun n => UInt8.ofNat n.toNat:=by
 unfold strOfNums
 simp
theorem h_Z {A B : List Int} (hA : Byt A) (hB : Byt B) : bytes_Equal.f A B = some (decide (A = B)):=by
 unfold bytes_Equal.f
 rw [e_j,e_j]
 congr 1
 rw [Bool.eq_iff_iff,beq_iff_eq,decide_eq_true_eq]
 constructor
 ·intro h
  induction A generalizing B with
  | nil => cases B with|nil => rfl|cons b B => simp at h
  | cons a A ih =>
   cases B with
   | nil => simp at h
   | cons b B =>
    simp only [List.map_cons,List.cons.injEq] at h
    have h1:=hA a (by simp)
    have h2:=hB b (by simp)
    have e : a.toNat = b.toNat:=by
     have:=congrArg UInt8.toNat h.1
     rw [UInt8.toNat_ofNat_of_lt' (by show a.toNat < 256;omega),UInt8.toNat_ofNat_of_lt' (by show b.toNat < 256;omega)] at this
     exact this
    rw [ih (fun x hx => hA x (by simp [hx])) (fun x hx => hB x (by simp [hx])) h.2,show a = b by omega]
 rintro rfl;rfl
theorem f_C (l : List S56) : Byt (encB l):=by
 intro x hx
 unfold encB at hx
 rcases List.mem_cons.mp hx with rfl|hx
 ·omega
 obtain ⟨y,hy,hx⟩:=List.mem_flatMap.mp hx
 unfold encS at hx
 simp at hx
 rcases hx with rfl|rfl <;> omega
end Go.Proofs.YtcpfcehfgenljaaDoor.Pure
end
section
namespace Go.Proofs.YtcpfcehfgenljaaDoor.Pure
open Go.RowKit Go.Proofs.YtcpfcehfgenljaaDoor.Q Go.Proofs.YtcpfcehfgenljaaDoorW.PrintWords Go.Proofs.YtcpfcehfgenljaaDoorW.PrintLast Go.Proofs.YtcpfcehfgenljaaDoorW.PrintMore
set_option linter.unusedVariables false
set_option linter.unusedSimpArgs false
def pairs : List Int → List S56
 | a :: b :: r => ⟨a,b⟩ :: pairs r
 | _ => []
def decB : List Int → List S56 × Int
 | [] => ([],7)
 | h :: t => if ((t.length : Int) + 1) ≤ 2 * h then ([],7) else if okT (pairs t) = true ∧ encB (pairs t) = h :: t then (pairs t,0) else ([],160)
theorem rdi {B pre suf : List Int} {x : Int} (h : B = pre ++ x :: suf) : rd B (pre.length : Int) = x:=by subst h;simp [rd]
theorem f_i (L : List S56) (B : List Int) (hL : L.length ≤ 100000) (hB : Byt B) : Ev (fun k => (a_z.f k L).bind fun bt178 => (if bt178.2 = 0 then ((bytes_Equal.f bt178.1 B).bind fun t182 => (if t182 = true then (some (L,(0 : Int))) else (some (([] : List S56),160)))) else (some (([] : List S56),160)))) (if okT L = true ∧ encB L = B then (L,0) else ([],160)):=by
 refine Ev.bind (g_5 L hL) ?_
 cases h : okT L
 ·simp only [Bool.false_eq_true,if_false,false_and]
  exact Ev.now _
 simp only [if_true,h_Z (f_C L) hB,Option.bind_some,true_and]
 by_cases e : encB L = B
 ·simp only [decide_eq_true e,if_pos e,if_true];exact Ev.now _
 simp only [decide_eq_false e,if_neg e];exact Ev.now _
theorem j_H (B : List Int) (hB : Byt B) (hl : B.length ≤ 100000) : ∀ (n : Nat) (suf pre : List Int) (out : List S56),suf.length ≤ n → B = pre ++ suf → 1 ≤ pre.length → out.length ≤ pre.length →
 Ev (fun k => a_w.l0 k B (pre.length : Int) out) (if okT (out ++ pairs suf) = true ∧ encB (out ++ pairs suf) = B then (out ++ pairs suf,0) else ([],160))
 | n,[],pre,out,hn,h,hp,ho => by
  have:=g_h h
  refine Ev.step (fun k => ?_) (f_i (out ++ pairs []) B (by simp [pairs];omega) hB)
  rw [a_w.l0,if_neg (by rw [c_7 pre.length (by omega)];omega)]
  simp [pairs]
 | n,[x],pre,out,hn,h,hp,ho => by
  have hlen : B.length = pre.length + 1:=by rw [h];simp
  refine Ev.step (fun k => ?_) (f_i (out ++ pairs [x]) B (by simp [pairs];omega) hB)
  rw [a_w.l0,if_neg (by rw [c_7 pre.length (by omega)];omega)]
  simp [pairs]
 | 0,x :: y :: suf,pre,out,hn,h,hp,ho => by simp at hn
 | n + 1,x :: y :: suf,pre,out,hn,h,hp,ho => by
  have hlen : B.length = pre.length + 2 + suf.length:=by rw [h];simp only [List.length_append,List.length_cons];omega
  have hx:=hB x (by rw [h];simp)
  have hy:=hB y (by rw [h];simp)
  have h2 : B = (pre ++ [x]) ++ y :: suf:=by rw [h];simp
  have r2 : rd B ((pre.length + 1 : Nat) : Int) = y:=by have:=rdi h2;simpa using this
  have ih:=j_H B hB hl n suf (pre ++ [x,y]) (out ++ [⟨x,y⟩]) (by simp at hn;omega) (by rw [h];simp) (by rw [List.length_append];omega) (by rw [List.length_append,List.length_append];simp only [List.length_cons,List.length_nil];omega)
  have ep : out ++ pairs (x :: y :: suf) = (out ++ [⟨x,y⟩]) ++ pairs suf:=by simp [pairs]
  rw [ep]
  refine Ev.step (f:=fun k => a_w.l0 k B ((pre ++ [x,y]).length : Int) (out ++ [⟨x,y⟩])) (fun k => ?_) ih
  have e2 : wrap64 ((pre.length : Int) + 2) = ((pre ++ [x,y]).length : Int):=by rw [c_u _ (by omega) (by omega)];simp
  rw [a_w.l0,c_7 pre.length (by omega),if_pos (by omega),if_pos (by omega),if_pos (by omega),if_pos (by omega),if_pos (by omega),rdi h,r2,c_u x (by omega) (by omega),c_u y (by omega) (by omega),e2]
theorem j_e (B : List Int) (hB : Byt B) (hl : B.length ≤ 100000) : Ev (fun k => a_w.f k B) (decB B):=by
 unfold a_w.f
 cases B with
 | nil =>
  simp only [List.length_nil]
  refine Ev.step (f:=fun _ => some ([],7)) (fun k => ?_) (Ev.now _)
  rfl
 | cons h t =>
  have hh:=hB h (by simp)
  have hl' : t.length + 1 ≤ 100000:=by simpa using hl
  have r0 : rd (h :: t) 0 = h:=rfl
  simp only [r0,c_u h (by omega) (by omega),c_u (2 * h) (by omega) (by omega)]
  simp only [if_neg (show ¬ (((h :: t).length : Nat) : Int) = 0 by rw [List.length_cons];omega),if_pos (show 0 < (((h :: t).length : Nat) : Int) by rw [List.length_cons];omega)]
  have hc : (((h :: t).length : Nat) : Int) = (t.length : Int) + 1:=by simp
  rw [decB,hc]
  by_cases c : (t.length : Int) + 1 ≤ 2 * h
  ·rw [if_pos c]
   simp only [decide_eq_true c]
   refine Ev.step (f:=fun _ => some ([],7)) (fun k => ?_) (Ev.now _)
   rw [a_w.j0,if_pos rfl]
  rw [if_neg c]
  simp only [decide_eq_false c]
  refine Ev.step (f:=fun k => a_w.l0 k (h :: t) 1 []) (fun k => ?_) ?_
  ·rw [a_w.j0,if_neg (by decide)]
  exact j_H (h :: t) hB hl t.length t [h] [] (Nat.le_refl _) rfl (by simp) (by simp)
theorem i_g (B : List Int) : (decB B).2 = 0 ∧ okT (decB B).1 = true ∧ encB (decB B).1 = B ∨ (decB B).1 = [] ∧ ((decB B).2 = 7 ∨ (decB B).2 = 160):=by
 cases B with
 | nil => exact .inr ⟨rfl,.inl rfl⟩
 | cons h t =>
  rw [decB]
  split
  ·exact .inr ⟨rfl,.inl rfl⟩
  split
  ·next c => exact .inl ⟨rfl,c.1,c.2⟩
  exact .inr ⟨rfl,.inr rfl⟩
end Go.Proofs.YtcpfcehfgenljaaDoor.Pure
end
