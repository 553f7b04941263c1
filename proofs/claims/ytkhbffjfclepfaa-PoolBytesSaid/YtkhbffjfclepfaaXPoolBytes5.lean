/- Part 6 of 7 of what the row of PoolBytes stands on: contracts over the given program's functions, the plain law, the row; no condition beyond those that each theorem states. -/
import Derived.Test.YtkhbffjfclepfaaXPoolBytes4
section
namespace Go.Proofs.Ytkhbffjfclepfaa.Q
open Go.RowKit Go.Proofs.YtkhbffjfclepfaaW.PrintWords Go.Proofs.YtkhbffjfclepfaaW.PrintLast Go.Proofs.YtkhbffjfclepfaaW.PrintMore
set_option linter.unusedVariables false
set_option linter.unusedSimpArgs false
mutual
def a_g.j1 : Nat → List (List Int) → Option (Bool)
 | 0,_ => none
 | k + 1,x1 => a_g.l1 k x1 (x1.length : Int) 0
def a_g.l1 : Nat → List (List Int) → Int → Int → Option (Bool)
 | 0,_,_,_ => none
 | k + 1,x64,x65,x66 => if x66 < x65 then (if 0 ≤ x66 then (if x66 < (x64.length : Int) then (if x66 = 12 then (some true) else ((some (([] : List Int) : List Int)).bind fun y409 => (if 0 ≤ (mn ((b_l x64 x66).length : Int) 300) then (if (mn ((b_l x64 x66).length : Int) 300) ≤ ((b_l x64 x66).length : Int) then (if y409.length + ((b_l x64 x66).take ((mn ((b_l x64 x66).length : Int) 300) : Int).toNat).length < 140737488355328 then ((some (y409 ++ ((b_l x64 x66).take ((mn ((b_l x64 x66).length : Int) 300) : Int).toNat) : List Int)).bind fun y413 => ((a_C.f k y413).bind fun bt416 => ((some (([] : List Int) : List Int)).bind fun y421 => (if y421.length + y413.length < 140737488355328 then ((a_l.f k (y421 ++ y413)).bind fun bt427 => (if bt416.2 = bt427.2 then ((a_r.f k bt416.1 bt427.1).bind fun t432 => (if t432 = true then (a_g.l1 k x64 x65 (wrap64 (x66 + 1))) else (some false))) else (some false))) else (none))))) else (none)) else (none)) else (none)))) else (none)) else (none)) else (some true)
def a_g.l0 : Nat → List (List Int) → List (S26) → Int → Int → Option (Bool)
 | 0,_,_,_,_ => none
 | k + 1,x1,x20,x21,x22 => if x22 < x21 then (if 0 ≤ x22 then (if x22 < (x20.length : Int) then (if x22 = 8 then (a_g.j1 k x1) else ((a_T.f ((b_s x20 x22).f0)).bind fun t395 => ((a_D.f k t395).bind fun bt399 => ((a_h.f k t395).bind fun t403 => (if t403 = true then (if bt399.2 = 0 then ((a_t.f k t395).bind fun t404 => ((bytes_Equal.f bt399.1 t404).bind fun t407 => (if t407 = true then (a_g.l0 k x1 x20 x21 (wrap64 (x22 + 1))) else (some false)))) else (some false)) else (if bt399.2 = 180 then (if (bt399.1.length : Int) = 0 then (a_g.l0 k x1 x20 x21 (wrap64 (x22 + 1))) else (some false)) else (some false))))))) else (none)) else (none)) else (a_g.j1 k x1)
end
def a_g.f (k : Nat) (l0 : List (S26)) (l1 : List (List Int)) : Option (Bool):=(a_E.f k).bind fun t392 => (if t392 = true then (a_g.l0 k l1 l0 (l0.length : Int) 0) else (some false))
theorem a_g.b_x : ∀ k,(∀ y0,LeO (a_g.j1 k y0) (a_g.j1 (k + 1) y0)) ∧ (∀ y0 y1 y2,LeO (a_g.l1 k y0 y1 y2) (a_g.l1 (k + 1) y0 y1 y2)) ∧ (∀ y0 y1 y2 y3,LeO (a_g.l0 k y0 y1 y2 y3) (a_g.l0 (k + 1) y0 y1 y2 y3))
 | 0 => ⟨fun _ r h => by simp [a_g.j1] at h,fun _ _ _ r h => by simp [a_g.l1] at h,fun _ _ _ _ r h => by simp [a_g.l0] at h⟩
 | k + 1 => by
  obtain ⟨ih0,ih1,ih2⟩:=a_g.b_x k
  refine ⟨?_,?_,?_⟩
  ·intro y0
   unfold a_g.j1
   repeat' first
   | (with_reducible exact ih0 _)
   | (with_reducible exact ih1 _ _ _)
   | (with_reducible exact ih2 _ _ _ _)
   | (with_reducible exact a_E.mono _)
   | (with_reducible exact a_t.mono _ _)
   | (with_reducible exact a_l.mono _ _)
   | (with_reducible exact a_h.mono _ _)
   | (with_reducible exact a_r.mono _ _ _)
   | (with_reducible exact a_C.mono _ _)
   | (with_reducible exact a_D.mono _ _)
   | (with_reducible exact LeO.refl _)
   | (with_reducible exact LeO.none _)
   | (with_reducible refine LeO.ite ?_ ?_)
   | (with_reducible refine LeO.bind ?_ (fun _ => ?_))
   | exact ih0 _
   | exact ih1 _ _ _
   | exact ih2 _ _ _ _
   | exact a_E.mono _
   | exact a_t.mono _ _
   | exact a_l.mono _ _
   | exact a_h.mono _ _
   | exact a_r.mono _ _ _
   | exact a_C.mono _ _
   | exact a_D.mono _ _
   | exact LeO.none _
   | refine LeO.ite ?_ ?_
   | refine LeO.bind ?_ (fun _ => ?_)
  ·intro y0 y1 y2
   unfold a_g.l1
   repeat' first
   | (with_reducible exact ih0 _)
   | (with_reducible exact ih1 _ _ _)
   | (with_reducible exact ih2 _ _ _ _)
   | (with_reducible exact a_E.mono _)
   | (with_reducible exact a_t.mono _ _)
   | (with_reducible exact a_l.mono _ _)
   | (with_reducible exact a_h.mono _ _)
   | (with_reducible exact a_r.mono _ _ _)
   | (with_reducible exact a_C.mono _ _)
   | (with_reducible exact a_D.mono _ _)
   | (with_reducible exact LeO.refl _)
   | (with_reducible exact LeO.none _)
   | (with_reducible refine LeO.ite ?_ ?_)
   | (with_reducible refine LeO.bind ?_ (fun _ => ?_))
   | exact ih0 _
   | exact ih1 _ _ _
   | exact ih2 _ _ _ _
   | exact a_E.mono _
   | exact a_t.mono _ _
   | exact a_l.mono _ _
   | exact a_h.mono _ _
   | exact a_r.mono _ _ _
   | exact a_C.mono _ _
   | exact a_D.mono _ _
   | exact LeO.none _
   | refine LeO.ite ?_ ?_
   | refine LeO.bind ?_ (fun _ => ?_)
  ·intro y0 y1 y2 y3
   unfold a_g.l0
   repeat' first
   | (with_reducible exact ih0 _)
   | (with_reducible exact ih1 _ _ _)
   | (with_reducible exact ih2 _ _ _ _)
   | (with_reducible exact a_E.mono _)
   | (with_reducible exact a_t.mono _ _)
   | (with_reducible exact a_l.mono _ _)
   | (with_reducible exact a_h.mono _ _)
   | (with_reducible exact a_r.mono _ _ _)
   | (with_reducible exact a_C.mono _ _)
   | (with_reducible exact a_D.mono _ _)
   | (with_reducible exact LeO.refl _)
   | (with_reducible exact LeO.none _)
   | (with_reducible refine LeO.ite ?_ ?_)
   | (with_reducible refine LeO.bind ?_ (fun _ => ?_))
   | exact ih0 _
   | exact ih1 _ _ _
   | exact ih2 _ _ _ _
   | exact a_E.mono _
   | exact a_t.mono _ _
   | exact a_l.mono _ _
   | exact a_h.mono _ _
   | exact a_r.mono _ _ _
   | exact a_C.mono _ _
   | exact a_D.mono _ _
   | exact LeO.none _
   | refine LeO.ite ?_ ?_
   | refine LeO.bind ?_ (fun _ => ?_)
theorem a_g.mono : ∀ a0 a1 k,LeO (a_g.f k a0 a1) (a_g.f (k + 1) a0 a1):=by
 intro a0 a1 k
 obtain ⟨ih0,ih1,ih2⟩:=a_g.b_x k
 unfold a_g.f
 repeat' first
  | (with_reducible exact ih0 _)
  | (with_reducible exact ih1 _ _ _)
  | (with_reducible exact ih2 _ _ _ _)
  | (with_reducible exact a_E.mono _)
  | (with_reducible exact a_t.mono _ _)
  | (with_reducible exact a_l.mono _ _)
  | (with_reducible exact a_h.mono _ _)
  | (with_reducible exact a_r.mono _ _ _)
  | (with_reducible exact a_C.mono _ _)
  | (with_reducible exact a_D.mono _ _)
  | (with_reducible exact LeO.refl _)
  | (with_reducible exact LeO.none _)
  | (with_reducible refine LeO.ite ?_ ?_)
  | (with_reducible refine LeO.bind ?_ (fun _ => ?_))
  | exact ih0 _
  | exact ih1 _ _ _
  | exact ih2 _ _ _ _
  | exact a_E.mono _
  | exact a_t.mono _ _
  | exact a_l.mono _ _
  | exact a_h.mono _ _
  | exact a_r.mono _ _ _
  | exact a_C.mono _ _
  | exact a_D.mono _ _
  | exact LeO.none _
  | refine LeO.ite ?_ ?_
  | refine LeO.bind ?_ (fun _ => ?_)
set_option maxHeartbeats 8000000 in
set_option maxRecDepth 100000 in
theorem a_g.calls (k : Nat) (A0 : Option Addr) (c0 : Nat) (l0 : List (S26)) (A1 : Option Addr) (c1 : Nat) (l1 : List (List Int)) (r : Bool) (w : World) (hr0 : Kd.C k26 w A0 l0.length l0) (hc0 : l0.length ≤ c0) (hr1 : Kd.C (Kd.slice 5 (Kd.int .u8)) w A1 l1.length l1) (hc1 : l1.length ≤ c1) (h : a_g.f k l0 l1 = some r) :
 Calls Try.prog 6 #[.slice A0 l0.length c0,.slice A1 l1.length c1] w fun e w' => e = .returned (.bool r) ∧ Below w.heap.size w w':=by
 have hu26:=Try.underlying26
 have HR0:=a_a.mk hr0
 have HC0:=a_a.mk hc0
 clear hr0 hc0
 have HR1:=a_a.mk hr1
 have HC1:=a_a.mk hc1
 clear hr1 hc1
 have HB:=a_a.mk (Below.refl w.heap.size w)
 have H : ((a_E.f k).bind fun t392 => (if t392 = true then (a_g.l0 k l1 l0 (l0.length : Int) 0) else (some false))) = some r:=h
 clear h
 replace H:=Option.bind_eq_some_iff.mp H
 obtain ⟨t392,A30,H⟩:=H
 replace H : (if t392 = true then (a_g.l0 k l1 l0 (l0.length : Int) 0) else (some false)) = some r:=H
 have A3:=a_a.mk A30
 clear A30
 by_cases c4 : t392 = true
 rotate_left
 ·replace c4:=Bool.eq_false_iff.mpr c4
  subst c4
  have H1 : (some false) = some r:=by rw [if_neg (show ¬ (false = true) by decide)] at H;exact H
  clear H
  have H:=H1
  clear H1
  obtain rfl:=Option.some.inj H
  go_enter Try.func6,Try.ntmps6
  go_wp2_with (first|((with_reducible refine a_B (f:=9) rfl ?_);refine a_X (some 18) rfl rfl Try.func9 (by kernel_rfl) rfl #[] rfl (by (try simp only [List.map_toArray,List.map_cons,List.map_nil]);first|done|rfl|(simp only [List.length_drop,List.length_take];rfl)) ?_;(with_reducible refine (a_E.calls k  false _ A3.out).mono ?_);rintro e w165 ⟨rfl,hb⟩;refine ⟨_,rfl,?_⟩;replace HB:=a_a.mk (a_i (lup_ HB.out) hb);(try clear hb);(try clear hb2);(try clear hk);(try clear hi)))
  go_ret
  exact ⟨by first|rfl|(simp [a_z,a_y] <;> rfl)|(simp [*, a_z,a_y] <;> rfl),by repeat (first|(with_reducible first|exact HB.out|apply a_d|apply a_b|apply a_e)|exact HB.out)⟩
 subst c4
 have H1 : (a_g.l0 k l1 l0 (l0.length : Int) 0) = some r:=by rw [if_pos rfl] at H;exact H
 clear H
 have H:=H1
 clear H1
 have HC5:=a_a.mk H
 clear H
 go_enter Try.func6,Try.ntmps6
 go_upto_block 0 with (first|((with_reducible refine a_B (f:=9) rfl ?_);refine a_X (some 18) rfl rfl Try.func9 (by kernel_rfl) rfl #[] rfl (by (try simp only [List.map_toArray,List.map_cons,List.map_nil]);first|done|rfl|(simp only [List.length_drop,List.length_take];rfl)) ?_;(with_reducible refine (a_E.calls k  true _ A3.out).mono ?_);rintro e w6 ⟨rfl,hb⟩;refine ⟨_,rfl,?_⟩;replace HB:=a_a.mk (a_i (lup_ HB.out) hb);(try clear hb);(try clear hb2);(try clear hk);(try clear hi)))
 (try simp only [Act.put,List.setIfInBounds_toArray,List.set_cons_zero,List.set_cons_succ])
 go_cut [] (fun wc => ∃ (kq : Nat),a_a (a_g.j1 kq l1 = some r) ∧ a_a (kq ≤ k) ∧ a_a (Below w.heap.size w wc))
 case first =>
  have H:=HC5.out
  clear HC5
  have H':=a_a.mk H
  clear H
  go_wp2
  go_loopg [22] k (fun kq v22 w' => ∃ (x22_1 : Int),v22 = .int .i64 x22_1 ∧ a_a (a_g.l0 kq l1 l0 (l0.length : Int) x22_1 = some r) ∧ a_a (kq ≤ k) ∧ a_a (Below w.heap.size w w'))
  case atStart => exact ⟨(0),(by first|rfl|(simp;done)|(simp [*];done)),H',⟨Nat.le_refl _⟩,⟨by repeat (first|(with_reducible first|exact HB.out|apply a_d|apply a_b|apply a_e)|exact HB.out)⟩⟩
  case round =>
   clear H'
   try clear c1
   try clear p2
   try clear c4
   try clear c6
   obtain ⟨x22_1,rfl,HA,HK1,HB⟩:=hrel
   cases gk with
   | zero => exact absurd HA.out (by simp [a_g.l0])
   | succ k1 =>
    have H:=HA.out
    clear HA
    simp only [a_g.l0] at H
    by_cases c7 : x22_1 < (l0.length : Int)
    rotate_left
    ·rw [if_neg c7] at H
     have c7b0 : decide (x22_1 < (l0.length : Int)) = false:=decide_eq_false c7
     clear c7
     (first|rw [c7b0]|(simp only [e_f,e_e];rw [c7b0])|skip)
     have H':=a_a.mk H
     clear H
     go_wp2
     go_meet
     case rel => exact ⟨_,H',⟨by have:=HK1.out;first|omega|exact Nat.le_refl _⟩,⟨by repeat (first|(with_reducible first|exact HB.out|apply a_d|apply a_b|apply a_e)|exact HB.out)⟩⟩
    rw [if_pos c7] at H
    have c7b0 : decide (x22_1 < (l0.length : Int)) = true:=decide_eq_true c7
    clear c7
    (first|rw [c7b0]|(simp only [e_f,e_e];rw [c7b0])|skip)
    by_cases c8 : 0 ≤ x22_1
    rotate_left
    ·rw [if_neg c8] at H
     exact absurd H (by simp)
    rw [if_pos c8] at H
    have c8b0 : decide (0 ≤ x22_1) = true:=decide_eq_true c8
    clear c8
    by_cases c9 : x22_1 < (l0.length : Int)
    rotate_left
    ·rw [if_neg c9] at H
     exact absurd H (by simp)
    rw [if_pos c9] at H
    have c9b0 : decide (x22_1 < (l0.length : Int)) = true:=decide_eq_true c9
    clear c9
    by_cases c10 : x22_1 = 8
    ·rw [if_pos c10] at H
     have c10b0 : (x22_1 == 8) = true:=beq_iff_eq.mpr c10
     have c10b1 : (x22_1 != 8) = false:=bne_eq_false_iff_eq.mpr c10
     clear c10
     have H':=a_a.mk H
     clear H
     have p393 : 0 ≤ (x22_1 : Int):=of_decide_eq_true (by first|(with_reducible assumption)|assumption)
     have q393 : x22_1 < (l0.length : Int):=of_decide_eq_true (by first|(with_reducible assumption)|assumption)
     obtain ⟨ad393,A393_0,c393_0,e393,b_g,b_C,b_D⟩:=d_T HR0.out x22_1 p393 q393
     cases e393
     replace b_g:=(HB.out.cell (World.block_lt_of_cell? w _ b_g)).trans b_g
     have c_e:=a_a.mk b_D
     have c_f:=a_a.mk b_C
     clear b_D b_C
     replace p393:=eq_true p393
     replace q393:=eq_true q393
     go_wp2_with (first|((with_reducible refine a_w (N:=6) rfl ?_);(try (refine a_H (by rfl) ?_;dsimp only));refine a_v ?hg (N:=6) ?hd (cs:=#[.slice none 0 0]) (t:=26) ?hr ?_;(case hd => rfl);(case hg => rfl);(case hr => first|(go_simp;done)|(go_simp;rfl));intro b_p hg w11 hbox hb;have a_Z:=a_a.mk (hbox);have f_7:=a_a.mk ((by rw [hg];exact (a_j (lup_ HB.out)) : w.heap.size ≤ b_p));have a_8:=a_a.mk ((by rw [hg];exact (a_j (lup_ HB.out)) : w.heap.size ≤ b_p));replace HB:=a_a.mk (a_i (lup_ HB.out) hb);clear hb hbox hg;have f_C : w11.cell? ⟨b_p,0,none⟩ = some (.slice none 0 0):=(a_m a_Z.out 0).trans rfl;have f_D:=a_k a_Z.out 0))
     go_meet
     case rel => exact ⟨_,H',⟨by have:=HK1.out;first|omega|exact Nat.le_refl _⟩,⟨by repeat (first|(with_reducible first|exact HB.out|apply a_d|apply a_b|apply a_e|refine a_c ?_ a_8.out)|exact HB.out)⟩⟩
    rw [if_neg c10] at H
    have c10b0 : (x22_1 == 8) = false:=beq_eq_false_iff_ne.mpr c10
    have c10b1 : (x22_1 != 8) = true:=bne_iff_ne.mpr c10
    replace H:=Option.bind_eq_some_iff.mp H
    obtain ⟨t395,A130,H⟩:=H
    replace H : ((a_D.f k1 t395).bind fun bt399 => ((a_h.f k1 t395).bind fun t403 => (if t403 = true then (if bt399.2 = 0 then ((a_t.f k1 t395).bind fun t404 => ((bytes_Equal.f bt399.1 t404).bind fun t407 => (if t407 = true then (a_g.l0 k1 l1 l0 (l0.length : Int) (wrap64 (x22_1 + 1))) else (some false)))) else (some false)) else (if bt399.2 = 180 then (if (bt399.1.length : Int) = 0 then (a_g.l0 k1 l1 l0 (l0.length : Int) (wrap64 (x22_1 + 1))) else (some false)) else (some false))))) = some r:=H
    have A13:=a_a.mk A130
    clear A130
    replace H:=Option.bind_eq_some_iff.mp H
    obtain ⟨⟨t399,t402⟩,A140,H⟩:=H
    replace H : ((a_h.f k1 t395).bind fun t403 => (if t403 = true then (if t402 = 0 then ((a_t.f k1 t395).bind fun t404 => ((bytes_Equal.f t399 t404).bind fun t407 => (if t407 = true then (a_g.l0 k1 l1 l0 (l0.length : Int) (wrap64 (x22_1 + 1))) else (some false)))) else (some false)) else (if t402 = 180 then (if (t399.length : Int) = 0 then (a_g.l0 k1 l1 l0 (l0.length : Int) (wrap64 (x22_1 + 1))) else (some false)) else (some false)))) = some r:=H
    have A14:=a_a.mk A140
    clear A140
    replace H:=Option.bind_eq_some_iff.mp H
    obtain ⟨t403,A150,H⟩:=H
    replace H : (if t403 = true then (if t402 = 0 then ((a_t.f k1 t395).bind fun t404 => ((bytes_Equal.f t399 t404).bind fun t407 => (if t407 = true then (a_g.l0 k1 l1 l0 (l0.length : Int) (wrap64 (x22_1 + 1))) else (some false)))) else (some false)) else (if t402 = 180 then (if (t399.length : Int) = 0 then (a_g.l0 k1 l1 l0 (l0.length : Int) (wrap64 (x22_1 + 1))) else (some false)) else (some false))) = some r:=H
    have A15:=a_a.mk A150
    clear A150
    by_cases c16 : t403 = true
    rotate_left
    ·replace c16:=Bool.eq_false_iff.mpr c16
     subst c16
     have H1 : (if t402 = 180 then (if (t399.length : Int) = 0 then (a_g.l0 k1 l1 l0 (l0.length : Int) (wrap64 (x22_1 + 1))) else (some false)) else (some false)) = some r:=by rw [if_neg (show ¬ (false = true) by decide)] at H;exact H
     clear H
     have H:=H1
     clear H1
     by_cases c59 : t402 = 180
     rotate_left
     ·rw [if_neg c59] at H
      have c59b0 : (t402 == 180) = false:=beq_eq_false_iff_ne.mpr c59
      have c59b1 : (t402 != 180) = true:=bne_iff_ne.mpr c59
      obtain rfl:=Option.some.inj H
      have p393 : 0 ≤ (x22_1 : Int):=of_decide_eq_true (by first|(with_reducible assumption)|assumption)
      have q393 : x22_1 < (l0.length : Int):=of_decide_eq_true (by first|(with_reducible assumption)|assumption)
      obtain ⟨ad393,A393_0,c393_0,e393,b_g,b_C,b_D⟩:=d_T HR0.out x22_1 p393 q393
      cases e393
      replace b_g:=(HB.out.cell (World.block_lt_of_cell? w _ b_g)).trans b_g
      have c_e:=a_a.mk b_D
      have c_f:=a_a.mk b_C
      clear b_D b_C
      replace p393:=eq_true p393
      replace q393:=eq_true q393
      go_wp2_with (first|((with_reducible refine a_w (N:=6) rfl ?_);(try (refine a_H (by rfl) ?_;dsimp only));refine a_v ?hg (N:=6) ?hd (cs:=#[.slice none 0 0]) (t:=26) ?hr ?_;(case hd => rfl);(case hg => rfl);(case hr => first|(go_simp;done)|(go_simp;rfl));intro b_p hg w83 hbox hb;have a_Z:=a_a.mk (hbox);have f_7:=a_a.mk ((by rw [hg];exact (a_j (lup_ HB.out)) : w.heap.size ≤ b_p));have a_8:=a_a.mk ((by rw [hg];exact (a_j (lup_ HB.out)) : w.heap.size ≤ b_p));replace HB:=a_a.mk (a_i (lup_ HB.out) hb);clear hb hbox hg;have g_N : w83.cell? ⟨b_p,0,none⟩ = some (.slice none 0 0):=(a_m a_Z.out 0).trans rfl;have g_O:=a_k a_Z.out 0)|((with_reducible refine a_B (f:=11) rfl ?_);refine a_X (some 30) rfl rfl Try.func11 (by kernel_rfl) rfl #[.agg #[.slice A393_0 ((b_s l0 x22_1).f0).length c393_0]] rfl (by (try simp only [List.map_toArray,List.map_cons,List.map_nil]);first|done|rfl|(simp only [List.length_drop,List.length_take];rfl)) ?_;(with_reducible refine (a_T.calls _ _ ((b_s l0 x22_1).f0) t395 _ ?side1 ?side2 A13.out).mono ?_);(case side1 => exact Kd.a_O c_e.out (by repeat (first|(with_reducible first|exact HB.out|apply a_d|apply a_b|apply a_e|refine a_c ?_ a_8.out)|exact HB.out)));(case side2 => exact c_f.out);rintro e w85 ⟨v396,rfl,ho0,hb⟩;refine ⟨_,rfl,?_⟩;have a_3:=a_a.mk (Kd.a_S ho0 (a_j (by repeat (first|(with_reducible first|exact HB.out|apply a_d|apply a_b|apply a_e|refine a_c ?_ a_8.out)|exact HB.out))));replace a_Z:=a_a.mk (a_f (g:=b_p) (o:=.cells #[.slice A393_0 ((b_s l0 x22_1).f0).length c393_0] 26 (0,0)) (by (with_reducible repeat (first|refine a_n ?_ _|refine a_q ?_|refine a_s ?_ _));refine a_L (cs:=#[.slice none 0 0]) ?_ 0 _ rfl;(with_reducible repeat (first|refine a_n ?_ _|refine a_q ?_|refine a_s ?_ _));exact a_Z.out) hb);replace HB:=a_a.mk (a_i (by repeat (first|(with_reducible first|exact HB.out|apply a_d|apply a_b|apply a_e|refine a_c ?_ a_8.out)|exact HB.out)) hb);(try clear hb);(try clear hb2);(try clear hk);(try clear hi);(try clear ho0))|((with_reducible refine a_w (N:=7) rfl ?_);(try (refine a_H (by rfl) ?_;dsimp only));refine a_v ?hg (N:=7) ?hd (cs:=#[.slice none 0 0]) (t:=26) ?hr ?_;(case hd => rfl);(case hg => rfl);(case hr => first|(go_simp;done)|(go_simp;rfl));intro b_b hg w86 hbox hb;have a_6:=a_a.mk (hbox);have g_P:=a_a.mk ((by rw [hg];exact (a_j (by repeat (first|(with_reducible first|exact HB.out|apply a_d|apply a_b|apply a_e|refine a_c ?_ a_8.out)|exact HB.out))) : w.heap.size ≤ b_b));have b_V:=a_a.mk ((by rw [hg];exact (a_j (by repeat (first|(with_reducible first|exact HB.out|apply a_d|apply a_b|apply a_e|refine a_c ?_ a_8.out)|exact HB.out))) : w.heap.size ≤ b_b));have b_m:=a_a.mk ((by rw [hg];exact Nat.ne_of_lt (a_o (bup_ a_Z.out)) : b_p ≠ b_b));have b_Q:=a_a.mk ((by rw [hg];exact Nat.ne_of_gt (a_o (bup_ a_Z.out)) : b_b ≠ b_p));replace a_3:=a_a.mk (Kd.a_F (rup_ a_3.out) hb);replace a_Z:=a_a.mk (a_f (bup_ a_Z.out) hb);replace HB:=a_a.mk (a_i (by repeat (first|(with_reducible first|exact HB.out|apply a_d|apply a_b|apply a_e|refine a_c ?_ a_8.out)|exact HB.out)) hb);clear hb hbox hg;obtain ⟨Ao87,co87,eo87⟩:=Kd.a_P a_3.out;subst eo87;have k_8:=b_Q.out;have k_9:=b_m.out;have g_Q : w86.cell? ⟨b_b,0,none⟩ = some (.slice none 0 0):=(a_m a_6.out 0).trans rfl;have g_R:=a_k a_6.out 0)|((with_reducible refine a_B (f:=24) rfl ?_);refine a_X (some 33) rfl rfl Try.func24 (by kernel_rfl) rfl #[.agg #[.slice Ao87 t395.length co87]] rfl (by (try simp only [List.map_toArray,List.map_cons,List.map_nil]);first|done|rfl|(simp only [List.length_drop,List.length_take];rfl)) ?_;(with_reducible refine (a_D.calls k1 _ _ t395 t399 t402 _ ?side1 ?side2 A14.out).mono ?_);(case side1 => refine (Kd.a_A (e:=31) (base:=w.heap.size) (ok:=fun k_ => True) (n:=t395.length) (c:=co87) ?_).2.2;exact (by (with_reducible repeat (first|apply Kd.a_J|apply Kd.a_I|apply Kd.a_M));exact (Kd.a_U (Kd.b_i (p:=⟨b_b,0,none⟩) (Kd.a_N a_3.out a_6.out (by decide)) (fun _ hk => hk.2) (.slice Ao87 t395.length co87)) (fun _ h_ => h_.1))));(case side2 => exact (Kd.a_A a_3.out).2.1);rintro e w90 ⟨v400,rfl,ho0,hb⟩;refine ⟨_,rfl,?_⟩;have b_X:=a_a.mk (Kd.a_S ho0 (a_j (by repeat (first|(with_reducible first|exact HB.out|apply a_d|apply a_b|apply a_e|refine a_c ?_ a_8.out|refine a_c ?_ b_V.out)|exact HB.out))));replace a_3:=a_a.mk (Kd.a_F (by (with_reducible repeat (first|apply Kd.a_J|apply Kd.a_I|apply Kd.a_M));exact (Kd.a_U (Kd.b_i (p:=⟨b_b,0,none⟩) (Kd.a_N a_3.out a_6.out (by decide)) (fun _ hk => hk.2) (.slice Ao87 t395.length co87)) (fun _ h_ => h_.1))) hb);replace a_Z:=a_a.mk (a_f (g:=b_p) (o:=.cells #[.slice A393_0 ((b_s l0 x22_1).f0).length c393_0] 26 (0,0)) (by (with_reducible repeat (first|refine a_n ?_ _|refine a_q ?_|refine a_s ?_ _));refine a_G ?_ b_m.out _;(with_reducible repeat (first|refine a_n ?_ _|refine a_q ?_|refine a_s ?_ _));exact a_Z.out) hb);replace a_6:=a_a.mk (a_f (g:=b_b) (o:=.cells #[.slice Ao87 t395.length co87] 26 (0,0)) (by (with_reducible repeat (first|refine a_n ?_ _|refine a_q ?_|refine a_s ?_ _));refine a_L (cs:=#[.slice none 0 0]) ?_ 0 _ rfl;(with_reducible repeat (first|refine a_n ?_ _|refine a_q ?_|refine a_s ?_ _));exact a_6.out) hb);replace HB:=a_a.mk (a_i (by repeat (first|(with_reducible first|exact HB.out|apply a_d|apply a_b|apply a_e|refine a_c ?_ a_8.out|refine a_c ?_ b_V.out)|exact HB.out)) hb);(try clear hb);(try clear hb2);(try clear hk);(try clear hi);(try clear ho0);have g_S : w90.cell? ⟨b_b,0,none⟩ = some (.slice Ao87 t395.length co87):=(a_m a_6.out 0).trans rfl;have g_T:=a_k a_6.out 0)|((with_reducible refine a_B (f:=16) rfl ?_);refine a_X (some 37) rfl rfl Try.func16 (by kernel_rfl) rfl #[.agg #[.slice Ao87 t395.length co87]] rfl (by (try simp only [List.map_toArray,List.map_cons,List.map_nil]);first|done|rfl|(simp only [List.length_drop,List.length_take];rfl)) ?_;(with_reducible refine (a_h.calls k1 _ _ t395 false _ ?side1 ?side2 A15.out).mono ?_);(case side1 => repeat (first|exact (Kd.a_A a_3.out).2.2|(with_reducible refine Kd.a_Q ?_ _)|(with_reducible refine Kd.a_R ?_ _)|(with_reducible refine Kd.a_0 ?_)));(case side2 => exact (Kd.a_A a_3.out).2.1);rintro e w92 ⟨rfl,hb⟩;refine ⟨_,rfl,?_⟩;replace a_3:=a_a.mk (Kd.a_F (rup_ a_3.out) hb);replace b_X:=a_a.mk (Kd.a_F (rup_ b_X.out) hb);replace a_Z:=a_a.mk (a_f (bup_ a_Z.out) hb);replace a_6:=a_a.mk (a_f (bup_ a_6.out) hb);replace HB:=a_a.mk (a_i (by repeat (first|(with_reducible first|exact HB.out|apply a_d|apply a_b|apply a_e|refine a_c ?_ a_8.out|refine a_c ?_ b_V.out)|exact HB.out)) hb);(try clear hb);(try clear hb2);(try clear hk);(try clear hi)))
      go_ret
      exact ⟨by first|rfl|(simp [a_z,a_y] <;> rfl)|(simp [*, a_z,a_y] <;> rfl),by repeat (first|(with_reducible first|exact HB.out|apply a_d|apply a_b|apply a_e|refine a_c ?_ a_8.out|refine a_c ?_ b_V.out)|exact HB.out)⟩
     rw [if_pos c59] at H
     have c59b0 : (t402 == 180) = true:=beq_iff_eq.mpr c59
     have c59b1 : (t402 != 180) = false:=bne_eq_false_iff_eq.mpr c59
     clear c59
     by_cases c60 : (t399.length : Int) = 0
     ·rw [if_pos c60] at H
      have c60b0 : ((t399.length : Int) == 0) = true:=beq_iff_eq.mpr c60
      have c60b1 : ((t399.length : Int) != 0) = false:=bne_eq_false_iff_eq.mpr c60
      clear c60
      have H':=a_a.mk H
      clear H
      have p393 : 0 ≤ (x22_1 : Int):=of_decide_eq_true (by first|(with_reducible assumption)|assumption)
      have q393 : x22_1 < (l0.length : Int):=of_decide_eq_true (by first|(with_reducible assumption)|assumption)
      obtain ⟨ad393,A393_0,c393_0,e393,b_g,b_C,b_D⟩:=d_T HR0.out x22_1 p393 q393
      cases e393
      replace b_g:=(HB.out.cell (World.block_lt_of_cell? w _ b_g)).trans b_g
      have c_e:=a_a.mk b_D
      have c_f:=a_a.mk b_C
      clear b_D b_C
      replace p393:=eq_true p393
      replace q393:=eq_true q393
      go_wp2_with (first|((with_reducible refine a_w (N:=6) rfl ?_);(try (refine a_H (by rfl) ?_;dsimp only));refine a_v ?hg (N:=6) ?hd (cs:=#[.slice none 0 0]) (t:=26) ?hr ?_;(case hd => rfl);(case hg => rfl);(case hr => first|(go_simp;done)|(go_simp;rfl));intro b_p hg w61 hbox hb;have a_Z:=a_a.mk (hbox);have f_7:=a_a.mk ((by rw [hg];exact (a_j (lup_ HB.out)) : w.heap.size ≤ b_p));have a_8:=a_a.mk ((by rw [hg];exact (a_j (lup_ HB.out)) : w.heap.size ≤ b_p));replace HB:=a_a.mk (a_i (lup_ HB.out) hb);clear hb hbox hg;have g_U : w61.cell? ⟨b_p,0,none⟩ = some (.slice none 0 0):=(a_m a_Z.out 0).trans rfl;have g_V:=a_k a_Z.out 0)|((with_reducible refine a_B (f:=11) rfl ?_);refine a_X (some 30) rfl rfl Try.func11 (by kernel_rfl) rfl #[.agg #[.slice A393_0 ((b_s l0 x22_1).f0).length c393_0]] rfl (by (try simp only [List.map_toArray,List.map_cons,List.map_nil]);first|done|rfl|(simp only [List.length_drop,List.length_take];rfl)) ?_;(with_reducible refine (a_T.calls _ _ ((b_s l0 x22_1).f0) t395 _ ?side1 ?side2 A13.out).mono ?_);(case side1 => exact Kd.a_O c_e.out (by repeat (first|(with_reducible first|exact HB.out|apply a_d|apply a_b|apply a_e|refine a_c ?_ a_8.out)|exact HB.out)));(case side2 => exact c_f.out);rintro e w63 ⟨v396,rfl,ho0,hb⟩;refine ⟨_,rfl,?_⟩;have a_3:=a_a.mk (Kd.a_S ho0 (a_j (by repeat (first|(with_reducible first|exact HB.out|apply a_d|apply a_b|apply a_e|refine a_c ?_ a_8.out)|exact HB.out))));replace a_Z:=a_a.mk (a_f (g:=b_p) (o:=.cells #[.slice A393_0 ((b_s l0 x22_1).f0).length c393_0] 26 (0,0)) (by (with_reducible repeat (first|refine a_n ?_ _|refine a_q ?_|refine a_s ?_ _));refine a_L (cs:=#[.slice none 0 0]) ?_ 0 _ rfl;(with_reducible repeat (first|refine a_n ?_ _|refine a_q ?_|refine a_s ?_ _));exact a_Z.out) hb);replace HB:=a_a.mk (a_i (by repeat (first|(with_reducible first|exact HB.out|apply a_d|apply a_b|apply a_e|refine a_c ?_ a_8.out)|exact HB.out)) hb);(try clear hb);(try clear hb2);(try clear hk);(try clear hi);(try clear ho0))|((with_reducible refine a_w (N:=7) rfl ?_);(try (refine a_H (by rfl) ?_;dsimp only));refine a_v ?hg (N:=7) ?hd (cs:=#[.slice none 0 0]) (t:=26) ?hr ?_;(case hd => rfl);(case hg => rfl);(case hr => first|(go_simp;done)|(go_simp;rfl));intro b_b hg w64 hbox hb;have a_6:=a_a.mk (hbox);have g_P:=a_a.mk ((by rw [hg];exact (a_j (by repeat (first|(with_reducible first|exact HB.out|apply a_d|apply a_b|apply a_e|refine a_c ?_ a_8.out)|exact HB.out))) : w.heap.size ≤ b_b));have b_V:=a_a.mk ((by rw [hg];exact (a_j (by repeat (first|(with_reducible first|exact HB.out|apply a_d|apply a_b|apply a_e|refine a_c ?_ a_8.out)|exact HB.out))) : w.heap.size ≤ b_b));have b_m:=a_a.mk ((by rw [hg];exact Nat.ne_of_lt (a_o (bup_ a_Z.out)) : b_p ≠ b_b));have b_Q:=a_a.mk ((by rw [hg];exact Nat.ne_of_gt (a_o (bup_ a_Z.out)) : b_b ≠ b_p));replace a_3:=a_a.mk (Kd.a_F (rup_ a_3.out) hb);replace a_Z:=a_a.mk (a_f (bup_ a_Z.out) hb);replace HB:=a_a.mk (a_i (by repeat (first|(with_reducible first|exact HB.out|apply a_d|apply a_b|apply a_e|refine a_c ?_ a_8.out)|exact HB.out)) hb);clear hb hbox hg;obtain ⟨Ao65,co65,eo65⟩:=Kd.a_P a_3.out;subst eo65;have l_a:=b_Q.out;have l_b:=b_m.out;have g_W : w64.cell? ⟨b_b,0,none⟩ = some (.slice none 0 0):=(a_m a_6.out 0).trans rfl;have g_X:=a_k a_6.out 0)|((with_reducible refine a_B (f:=24) rfl ?_);refine a_X (some 33) rfl rfl Try.func24 (by kernel_rfl) rfl #[.agg #[.slice Ao65 t395.length co65]] rfl (by (try simp only [List.map_toArray,List.map_cons,List.map_nil]);first|done|rfl|(simp only [List.length_drop,List.length_take];rfl)) ?_;(with_reducible refine (a_D.calls k1 _ _ t395 t399 t402 _ ?side1 ?side2 A14.out).mono ?_);(case side1 => refine (Kd.a_A (e:=31) (base:=w.heap.size) (ok:=fun k_ => True) (n:=t395.length) (c:=co65) ?_).2.2;exact (by (with_reducible repeat (first|apply Kd.a_J|apply Kd.a_I|apply Kd.a_M));exact (Kd.a_U (Kd.b_i (p:=⟨b_b,0,none⟩) (Kd.a_N a_3.out a_6.out (by decide)) (fun _ hk => hk.2) (.slice Ao65 t395.length co65)) (fun _ h_ => h_.1))));(case side2 => exact (Kd.a_A a_3.out).2.1);rintro e w68 ⟨v400,rfl,ho0,hb⟩;refine ⟨_,rfl,?_⟩;have b_X:=a_a.mk (Kd.a_S ho0 (a_j (by repeat (first|(with_reducible first|exact HB.out|apply a_d|apply a_b|apply a_e|refine a_c ?_ a_8.out|refine a_c ?_ b_V.out)|exact HB.out))));replace a_3:=a_a.mk (Kd.a_F (by (with_reducible repeat (first|apply Kd.a_J|apply Kd.a_I|apply Kd.a_M));exact (Kd.a_U (Kd.b_i (p:=⟨b_b,0,none⟩) (Kd.a_N a_3.out a_6.out (by decide)) (fun _ hk => hk.2) (.slice Ao65 t395.length co65)) (fun _ h_ => h_.1))) hb);replace a_Z:=a_a.mk (a_f (g:=b_p) (o:=.cells #[.slice A393_0 ((b_s l0 x22_1).f0).length c393_0] 26 (0,0)) (by (with_reducible repeat (first|refine a_n ?_ _|refine a_q ?_|refine a_s ?_ _));refine a_G ?_ b_m.out _;(with_reducible repeat (first|refine a_n ?_ _|refine a_q ?_|refine a_s ?_ _));exact a_Z.out) hb);replace a_6:=a_a.mk (a_f (g:=b_b) (o:=.cells #[.slice Ao65 t395.length co65] 26 (0,0)) (by (with_reducible repeat (first|refine a_n ?_ _|refine a_q ?_|refine a_s ?_ _));refine a_L (cs:=#[.slice none 0 0]) ?_ 0 _ rfl;(with_reducible repeat (first|refine a_n ?_ _|refine a_q ?_|refine a_s ?_ _));exact a_6.out) hb);replace HB:=a_a.mk (a_i (by repeat (first|(with_reducible first|exact HB.out|apply a_d|apply a_b|apply a_e|refine a_c ?_ a_8.out|refine a_c ?_ b_V.out)|exact HB.out)) hb);(try clear hb);(try clear hb2);(try clear hk);(try clear hi);(try clear ho0);have g_Y : w68.cell? ⟨b_b,0,none⟩ = some (.slice Ao65 t395.length co65):=(a_m a_6.out 0).trans rfl;have g_Z:=a_k a_6.out 0)|((with_reducible refine a_B (f:=16) rfl ?_);refine a_X (some 37) rfl rfl Try.func16 (by kernel_rfl) rfl #[.agg #[.slice Ao65 t395.length co65]] rfl (by (try simp only [List.map_toArray,List.map_cons,List.map_nil]);first|done|rfl|(simp only [List.length_drop,List.length_take];rfl)) ?_;(with_reducible refine (a_h.calls k1 _ _ t395 false _ ?side1 ?side2 A15.out).mono ?_);(case side1 => repeat (first|exact (Kd.a_A a_3.out).2.2|(with_reducible refine Kd.a_Q ?_ _)|(with_reducible refine Kd.a_R ?_ _)|(with_reducible refine Kd.a_0 ?_)));(case side2 => exact (Kd.a_A a_3.out).2.1);rintro e w70 ⟨rfl,hb⟩;refine ⟨_,rfl,?_⟩;replace a_3:=a_a.mk (Kd.a_F (rup_ a_3.out) hb);replace b_X:=a_a.mk (Kd.a_F (rup_ b_X.out) hb);replace a_Z:=a_a.mk (a_f (bup_ a_Z.out) hb);replace a_6:=a_a.mk (a_f (bup_ a_6.out) hb);replace HB:=a_a.mk (a_i (by repeat (first|(with_reducible first|exact HB.out|apply a_d|apply a_b|apply a_e|refine a_c ?_ a_8.out|refine a_c ?_ b_V.out)|exact HB.out)) hb);(try clear hb);(try clear hb2);(try clear hk);(try clear hi);obtain ⟨Ao71,co71,eo71⟩:=Kd.a_P b_X.out;subst eo71))
      go_roundg k1
      case measure => have:=HK1.out;omega
      case rel => exact ⟨(wrap64 (x22_1 + 1)),(by first|rfl|(simp;done)|(simp [*];done)),H',⟨by have:=HK1.out;omega⟩,⟨by repeat (first|(with_reducible first|exact HB.out|apply a_d|apply a_b|apply a_e|refine a_c ?_ a_8.out|refine a_c ?_ b_V.out)|exact HB.out)⟩⟩
     rw [if_neg c60] at H
     have c60b0 : ((t399.length : Int) == 0) = false:=beq_eq_false_iff_ne.mpr c60
     have c60b1 : ((t399.length : Int) != 0) = true:=bne_iff_ne.mpr c60
     have c60b2 : ¬ (t399 = []):=fun h_ => c60 (by rw [h_];rfl)
     obtain rfl:=Option.some.inj H
     have p393 : 0 ≤ (x22_1 : Int):=of_decide_eq_true (by first|(with_reducible assumption)|assumption)
     have q393 : x22_1 < (l0.length : Int):=of_decide_eq_true (by first|(with_reducible assumption)|assumption)
     obtain ⟨ad393,A393_0,c393_0,e393,b_g,b_C,b_D⟩:=d_T HR0.out x22_1 p393 q393
     cases e393
     replace b_g:=(HB.out.cell (World.block_lt_of_cell? w _ b_g)).trans b_g
     have c_e:=a_a.mk b_D
     have c_f:=a_a.mk b_C
     clear b_D b_C
     replace p393:=eq_true p393
     replace q393:=eq_true q393
     go_wp2_with (first|((with_reducible refine a_w (N:=6) rfl ?_);(try (refine a_H (by rfl) ?_;dsimp only));refine a_v ?hg (N:=6) ?hd (cs:=#[.slice none 0 0]) (t:=26) ?hr ?_;(case hd => rfl);(case hg => rfl);(case hr => first|(go_simp;done)|(go_simp;rfl));intro b_p hg w72 hbox hb;have a_Z:=a_a.mk (hbox);have f_7:=a_a.mk ((by rw [hg];exact (a_j (lup_ HB.out)) : w.heap.size ≤ b_p));have a_8:=a_a.mk ((by rw [hg];exact (a_j (lup_ HB.out)) : w.heap.size ≤ b_p));replace HB:=a_a.mk (a_i (lup_ HB.out) hb);clear hb hbox hg;have g_0 : w72.cell? ⟨b_p,0,none⟩ = some (.slice none 0 0):=(a_m a_Z.out 0).trans rfl;have g_1:=a_k a_Z.out 0)|((with_reducible refine a_B (f:=11) rfl ?_);refine a_X (some 30) rfl rfl Try.func11 (by kernel_rfl) rfl #[.agg #[.slice A393_0 ((b_s l0 x22_1).f0).length c393_0]] rfl (by (try simp only [List.map_toArray,List.map_cons,List.map_nil]);first|done|rfl|(simp only [List.length_drop,List.length_take];rfl)) ?_;(with_reducible refine (a_T.calls _ _ ((b_s l0 x22_1).f0) t395 _ ?side1 ?side2 A13.out).mono ?_);(case side1 => exact Kd.a_O c_e.out (by repeat (first|(with_reducible first|exact HB.out|apply a_d|apply a_b|apply a_e|refine a_c ?_ a_8.out)|exact HB.out)));(case side2 => exact c_f.out);rintro e w74 ⟨v396,rfl,ho0,hb⟩;refine ⟨_,rfl,?_⟩;have a_3:=a_a.mk (Kd.a_S ho0 (a_j (by repeat (first|(with_reducible first|exact HB.out|apply a_d|apply a_b|apply a_e|refine a_c ?_ a_8.out)|exact HB.out))));replace a_Z:=a_a.mk (a_f (g:=b_p) (o:=.cells #[.slice A393_0 ((b_s l0 x22_1).f0).length c393_0] 26 (0,0)) (by (with_reducible repeat (first|refine a_n ?_ _|refine a_q ?_|refine a_s ?_ _));refine a_L (cs:=#[.slice none 0 0]) ?_ 0 _ rfl;(with_reducible repeat (first|refine a_n ?_ _|refine a_q ?_|refine a_s ?_ _));exact a_Z.out) hb);replace HB:=a_a.mk (a_i (by repeat (first|(with_reducible first|exact HB.out|apply a_d|apply a_b|apply a_e|refine a_c ?_ a_8.out)|exact HB.out)) hb);(try clear hb);(try clear hb2);(try clear hk);(try clear hi);(try clear ho0))|((with_reducible refine a_w (N:=7) rfl ?_);(try (refine a_H (by rfl) ?_;dsimp only));refine a_v ?hg (N:=7) ?hd (cs:=#[.slice none 0 0]) (t:=26) ?hr ?_;(case hd => rfl);(case hg => rfl);(case hr => first|(go_simp;done)|(go_simp;rfl));intro b_b hg w75 hbox hb;have a_6:=a_a.mk (hbox);have g_P:=a_a.mk ((by rw [hg];exact (a_j (by repeat (first|(with_reducible first|exact HB.out|apply a_d|apply a_b|apply a_e|refine a_c ?_ a_8.out)|exact HB.out))) : w.heap.size ≤ b_b));have b_V:=a_a.mk ((by rw [hg];exact (a_j (by repeat (first|(with_reducible first|exact HB.out|apply a_d|apply a_b|apply a_e|refine a_c ?_ a_8.out)|exact HB.out))) : w.heap.size ≤ b_b));have b_m:=a_a.mk ((by rw [hg];exact Nat.ne_of_lt (a_o (bup_ a_Z.out)) : b_p ≠ b_b));have b_Q:=a_a.mk ((by rw [hg];exact Nat.ne_of_gt (a_o (bup_ a_Z.out)) : b_b ≠ b_p));replace a_3:=a_a.mk (Kd.a_F (rup_ a_3.out) hb);replace a_Z:=a_a.mk (a_f (bup_ a_Z.out) hb);replace HB:=a_a.mk (a_i (by repeat (first|(with_reducible first|exact HB.out|apply a_d|apply a_b|apply a_e|refine a_c ?_ a_8.out)|exact HB.out)) hb);clear hb hbox hg;obtain ⟨Ao76,co76,eo76⟩:=Kd.a_P a_3.out;subst eo76;have l_d:=b_Q.out;have l_e:=b_m.out;have g_2 : w75.cell? ⟨b_b,0,none⟩ = some (.slice none 0 0):=(a_m a_6.out 0).trans rfl;have g_3:=a_k a_6.out 0)|((with_reducible refine a_B (f:=24) rfl ?_);refine a_X (some 33) rfl rfl Try.func24 (by kernel_rfl) rfl #[.agg #[.slice Ao76 t395.length co76]] rfl (by (try simp only [List.map_toArray,List.map_cons,List.map_nil]);first|done|rfl|(simp only [List.length_drop,List.length_take];rfl)) ?_;(with_reducible refine (a_D.calls k1 _ _ t395 t399 t402 _ ?side1 ?side2 A14.out).mono ?_);(case side1 => refine (Kd.a_A (e:=31) (base:=w.heap.size) (ok:=fun k_ => True) (n:=t395.length) (c:=co76) ?_).2.2;exact (by (with_reducible repeat (first|apply Kd.a_J|apply Kd.a_I|apply Kd.a_M));exact (Kd.a_U (Kd.b_i (p:=⟨b_b,0,none⟩) (Kd.a_N a_3.out a_6.out (by decide)) (fun _ hk => hk.2) (.slice Ao76 t395.length co76)) (fun _ h_ => h_.1))));(case side2 => exact (Kd.a_A a_3.out).2.1);rintro e w79 ⟨v400,rfl,ho0,hb⟩;refine ⟨_,rfl,?_⟩;have b_X:=a_a.mk (Kd.a_S ho0 (a_j (by repeat (first|(with_reducible first|exact HB.out|apply a_d|apply a_b|apply a_e|refine a_c ?_ a_8.out|refine a_c ?_ b_V.out)|exact HB.out))));replace a_3:=a_a.mk (Kd.a_F (by (with_reducible repeat (first|apply Kd.a_J|apply Kd.a_I|apply Kd.a_M));exact (Kd.a_U (Kd.b_i (p:=⟨b_b,0,none⟩) (Kd.a_N a_3.out a_6.out (by decide)) (fun _ hk => hk.2) (.slice Ao76 t395.length co76)) (fun _ h_ => h_.1))) hb);replace a_Z:=a_a.mk (a_f (g:=b_p) (o:=.cells #[.slice A393_0 ((b_s l0 x22_1).f0).length c393_0] 26 (0,0)) (by (with_reducible repeat (first|refine a_n ?_ _|refine a_q ?_|refine a_s ?_ _));refine a_G ?_ b_m.out _;(with_reducible repeat (first|refine a_n ?_ _|refine a_q ?_|refine a_s ?_ _));exact a_Z.out) hb);replace a_6:=a_a.mk (a_f (g:=b_b) (o:=.cells #[.slice Ao76 t395.length co76] 26 (0,0)) (by (with_reducible repeat (first|refine a_n ?_ _|refine a_q ?_|refine a_s ?_ _));refine a_L (cs:=#[.slice none 0 0]) ?_ 0 _ rfl;(with_reducible repeat (first|refine a_n ?_ _|refine a_q ?_|refine a_s ?_ _));exact a_6.out) hb);replace HB:=a_a.mk (a_i (by repeat (first|(with_reducible first|exact HB.out|apply a_d|apply a_b|apply a_e|refine a_c ?_ a_8.out|refine a_c ?_ b_V.out)|exact HB.out)) hb);(try clear hb);(try clear hb2);(try clear hk);(try clear hi);(try clear ho0);have g_4 : w79.cell? ⟨b_b,0,none⟩ = some (.slice Ao76 t395.length co76):=(a_m a_6.out 0).trans rfl;have g_5:=a_k a_6.out 0)|((with_reducible refine a_B (f:=16) rfl ?_);refine a_X (some 37) rfl rfl Try.func16 (by kernel_rfl) rfl #[.agg #[.slice Ao76 t395.length co76]] rfl (by (try simp only [List.map_toArray,List.map_cons,List.map_nil]);first|done|rfl|(simp only [List.length_drop,List.length_take];rfl)) ?_;(with_reducible refine (a_h.calls k1 _ _ t395 false _ ?side1 ?side2 A15.out).mono ?_);(case side1 => repeat (first|exact (Kd.a_A a_3.out).2.2|(with_reducible refine Kd.a_Q ?_ _)|(with_reducible refine Kd.a_R ?_ _)|(with_reducible refine Kd.a_0 ?_)));(case side2 => exact (Kd.a_A a_3.out).2.1);rintro e w81 ⟨rfl,hb⟩;refine ⟨_,rfl,?_⟩;replace a_3:=a_a.mk (Kd.a_F (rup_ a_3.out) hb);replace b_X:=a_a.mk (Kd.a_F (rup_ b_X.out) hb);replace a_Z:=a_a.mk (a_f (bup_ a_Z.out) hb);replace a_6:=a_a.mk (a_f (bup_ a_6.out) hb);replace HB:=a_a.mk (a_i (by repeat (first|(with_reducible first|exact HB.out|apply a_d|apply a_b|apply a_e|refine a_c ?_ a_8.out|refine a_c ?_ b_V.out)|exact HB.out)) hb);(try clear hb);(try clear hb2);(try clear hk);(try clear hi);obtain ⟨Ao82,co82,eo82⟩:=Kd.a_P b_X.out;subst eo82))
     go_ret
     exact ⟨by first|rfl|(simp [a_z,a_y] <;> rfl)|(simp [*, a_z,a_y] <;> rfl),by repeat (first|(with_reducible first|exact HB.out|apply a_d|apply a_b|apply a_e|refine a_c ?_ a_8.out|refine a_c ?_ b_V.out)|exact HB.out)⟩
    subst c16
    have H1 : (if t402 = 0 then ((a_t.f k1 t395).bind fun t404 => ((bytes_Equal.f t399 t404).bind fun t407 => (if t407 = true then (a_g.l0 k1 l1 l0 (l0.length : Int) (wrap64 (x22_1 + 1))) else (some false)))) else (some false)) = some r:=by rw [if_pos rfl] at H;exact H
    clear H
    have H:=H1
    clear H1
    by_cases c17 : t402 = 0
    rotate_left
    ·rw [if_neg c17] at H
     have c17b0 : (t402 == 0) = false:=beq_eq_false_iff_ne.mpr c17
     have c17b1 : (t402 != 0) = true:=bne_iff_ne.mpr c17
     obtain rfl:=Option.some.inj H
     have p393 : 0 ≤ (x22_1 : Int):=of_decide_eq_true (by first|(with_reducible assumption)|assumption)
     have q393 : x22_1 < (l0.length : Int):=of_decide_eq_true (by first|(with_reducible assumption)|assumption)
     obtain ⟨ad393,A393_0,c393_0,e393,b_g,b_C,b_D⟩:=d_T HR0.out x22_1 p393 q393
     cases e393
     replace b_g:=(HB.out.cell (World.block_lt_of_cell? w _ b_g)).trans b_g
     have c_e:=a_a.mk b_D
     have c_f:=a_a.mk b_C
     clear b_D b_C
     replace p393:=eq_true p393
     replace q393:=eq_true q393
     go_wp2_with (first|((with_reducible refine a_w (N:=6) rfl ?_);(try (refine a_H (by rfl) ?_;dsimp only));refine a_v ?hg (N:=6) ?hd (cs:=#[.slice none 0 0]) (t:=26) ?hr ?_;(case hd => rfl);(case hg => rfl);(case hr => first|(go_simp;done)|(go_simp;rfl));intro b_p hg w49 hbox hb;have a_Z:=a_a.mk (hbox);have f_7:=a_a.mk ((by rw [hg];exact (a_j (lup_ HB.out)) : w.heap.size ≤ b_p));have a_8:=a_a.mk ((by rw [hg];exact (a_j (lup_ HB.out)) : w.heap.size ≤ b_p));replace HB:=a_a.mk (a_i (lup_ HB.out) hb);clear hb hbox hg;have g_6 : w49.cell? ⟨b_p,0,none⟩ = some (.slice none 0 0):=(a_m a_Z.out 0).trans rfl;have g_7:=a_k a_Z.out 0)|((with_reducible refine a_B (f:=11) rfl ?_);refine a_X (some 30) rfl rfl Try.func11 (by kernel_rfl) rfl #[.agg #[.slice A393_0 ((b_s l0 x22_1).f0).length c393_0]] rfl (by (try simp only [List.map_toArray,List.map_cons,List.map_nil]);first|done|rfl|(simp only [List.length_drop,List.length_take];rfl)) ?_;(with_reducible refine (a_T.calls _ _ ((b_s l0 x22_1).f0) t395 _ ?side1 ?side2 A13.out).mono ?_);(case side1 => exact Kd.a_O c_e.out (by repeat (first|(with_reducible first|exact HB.out|apply a_d|apply a_b|apply a_e|refine a_c ?_ a_8.out)|exact HB.out)));(case side2 => exact c_f.out);rintro e w51 ⟨v396,rfl,ho0,hb⟩;refine ⟨_,rfl,?_⟩;have a_3:=a_a.mk (Kd.a_S ho0 (a_j (by repeat (first|(with_reducible first|exact HB.out|apply a_d|apply a_b|apply a_e|refine a_c ?_ a_8.out)|exact HB.out))));replace a_Z:=a_a.mk (a_f (g:=b_p) (o:=.cells #[.slice A393_0 ((b_s l0 x22_1).f0).length c393_0] 26 (0,0)) (by (with_reducible repeat (first|refine a_n ?_ _|refine a_q ?_|refine a_s ?_ _));refine a_L (cs:=#[.slice none 0 0]) ?_ 0 _ rfl;(with_reducible repeat (first|refine a_n ?_ _|refine a_q ?_|refine a_s ?_ _));exact a_Z.out) hb);replace HB:=a_a.mk (a_i (by repeat (first|(with_reducible first|exact HB.out|apply a_d|apply a_b|apply a_e|refine a_c ?_ a_8.out)|exact HB.out)) hb);(try clear hb);(try clear hb2);(try clear hk);(try clear hi);(try clear ho0))|((with_reducible refine a_w (N:=7) rfl ?_);(try (refine a_H (by rfl) ?_;dsimp only));refine a_v ?hg (N:=7) ?hd (cs:=#[.slice none 0 0]) (t:=26) ?hr ?_;(case hd => rfl);(case hg => rfl);(case hr => first|(go_simp;done)|(go_simp;rfl));intro b_b hg w52 hbox hb;have a_6:=a_a.mk (hbox);have g_P:=a_a.mk ((by rw [hg];exact (a_j (by repeat (first|(with_reducible first|exact HB.out|apply a_d|apply a_b|apply a_e|refine a_c ?_ a_8.out)|exact HB.out))) : w.heap.size ≤ b_b));have b_V:=a_a.mk ((by rw [hg];exact (a_j (by repeat (first|(with_reducible first|exact HB.out|apply a_d|apply a_b|apply a_e|refine a_c ?_ a_8.out)|exact HB.out))) : w.heap.size ≤ b_b));have b_m:=a_a.mk ((by rw [hg];exact Nat.ne_of_lt (a_o (bup_ a_Z.out)) : b_p ≠ b_b));have b_Q:=a_a.mk ((by rw [hg];exact Nat.ne_of_gt (a_o (bup_ a_Z.out)) : b_b ≠ b_p));replace a_3:=a_a.mk (Kd.a_F (rup_ a_3.out) hb);replace a_Z:=a_a.mk (a_f (bup_ a_Z.out) hb);replace HB:=a_a.mk (a_i (by repeat (first|(with_reducible first|exact HB.out|apply a_d|apply a_b|apply a_e|refine a_c ?_ a_8.out)|exact HB.out)) hb);clear hb hbox hg;obtain ⟨Ao53,co53,eo53⟩:=Kd.a_P a_3.out;subst eo53;have l_f:=b_Q.out;have l_g:=b_m.out;have g_8 : w52.cell? ⟨b_b,0,none⟩ = some (.slice none 0 0):=(a_m a_6.out 0).trans rfl;have g_9:=a_k a_6.out 0)|((with_reducible refine a_B (f:=24) rfl ?_);refine a_X (some 33) rfl rfl Try.func24 (by kernel_rfl) rfl #[.agg #[.slice Ao53 t395.length co53]] rfl (by (try simp only [List.map_toArray,List.map_cons,List.map_nil]);first|done|rfl|(simp only [List.length_drop,List.length_take];rfl)) ?_;(with_reducible refine (a_D.calls k1 _ _ t395 t399 t402 _ ?side1 ?side2 A14.out).mono ?_);(case side1 => refine (Kd.a_A (e:=31) (base:=w.heap.size) (ok:=fun k_ => True) (n:=t395.length) (c:=co53) ?_).2.2;exact (by (with_reducible repeat (first|apply Kd.a_J|apply Kd.a_I|apply Kd.a_M));exact (Kd.a_U (Kd.b_i (p:=⟨b_b,0,none⟩) (Kd.a_N a_3.out a_6.out (by decide)) (fun _ hk => hk.2) (.slice Ao53 t395.length co53)) (fun _ h_ => h_.1))));(case side2 => exact (Kd.a_A a_3.out).2.1);rintro e w56 ⟨v400,rfl,ho0,hb⟩;refine ⟨_,rfl,?_⟩;have b_X:=a_a.mk (Kd.a_S ho0 (a_j (by repeat (first|(with_reducible first|exact HB.out|apply a_d|apply a_b|apply a_e|refine a_c ?_ a_8.out|refine a_c ?_ b_V.out)|exact HB.out))));replace a_3:=a_a.mk (Kd.a_F (by (with_reducible repeat (first|apply Kd.a_J|apply Kd.a_I|apply Kd.a_M));exact (Kd.a_U (Kd.b_i (p:=⟨b_b,0,none⟩) (Kd.a_N a_3.out a_6.out (by decide)) (fun _ hk => hk.2) (.slice Ao53 t395.length co53)) (fun _ h_ => h_.1))) hb);replace a_Z:=a_a.mk (a_f (g:=b_p) (o:=.cells #[.slice A393_0 ((b_s l0 x22_1).f0).length c393_0] 26 (0,0)) (by (with_reducible repeat (first|refine a_n ?_ _|refine a_q ?_|refine a_s ?_ _));refine a_G ?_ b_m.out _;(with_reducible repeat (first|refine a_n ?_ _|refine a_q ?_|refine a_s ?_ _));exact a_Z.out) hb);replace a_6:=a_a.mk (a_f (g:=b_b) (o:=.cells #[.slice Ao53 t395.length co53] 26 (0,0)) (by (with_reducible repeat (first|refine a_n ?_ _|refine a_q ?_|refine a_s ?_ _));refine a_L (cs:=#[.slice none 0 0]) ?_ 0 _ rfl;(with_reducible repeat (first|refine a_n ?_ _|refine a_q ?_|refine a_s ?_ _));exact a_6.out) hb);replace HB:=a_a.mk (a_i (by repeat (first|(with_reducible first|exact HB.out|apply a_d|apply a_b|apply a_e|refine a_c ?_ a_8.out|refine a_c ?_ b_V.out)|exact HB.out)) hb);(try clear hb);(try clear hb2);(try clear hk);(try clear hi);(try clear ho0);have h_a : w56.cell? ⟨b_b,0,none⟩ = some (.slice Ao53 t395.length co53):=(a_m a_6.out 0).trans rfl;have h_b:=a_k a_6.out 0)|((with_reducible refine a_B (f:=16) rfl ?_);refine a_X (some 37) rfl rfl Try.func16 (by kernel_rfl) rfl #[.agg #[.slice Ao53 t395.length co53]] rfl (by (try simp only [List.map_toArray,List.map_cons,List.map_nil]);first|done|rfl|(simp only [List.length_drop,List.length_take];rfl)) ?_;(with_reducible refine (a_h.calls k1 _ _ t395 true _ ?side1 ?side2 A15.out).mono ?_);(case side1 => repeat (first|exact (Kd.a_A a_3.out).2.2|(with_reducible refine Kd.a_Q ?_ _)|(with_reducible refine Kd.a_R ?_ _)|(with_reducible refine Kd.a_0 ?_)));(case side2 => exact (Kd.a_A a_3.out).2.1);rintro e w58 ⟨rfl,hb⟩;refine ⟨_,rfl,?_⟩;replace a_3:=a_a.mk (Kd.a_F (rup_ a_3.out) hb);replace b_X:=a_a.mk (Kd.a_F (rup_ b_X.out) hb);replace a_Z:=a_a.mk (a_f (bup_ a_Z.out) hb);replace a_6:=a_a.mk (a_f (bup_ a_6.out) hb);replace HB:=a_a.mk (a_i (by repeat (first|(with_reducible first|exact HB.out|apply a_d|apply a_b|apply a_e|refine a_c ?_ a_8.out|refine a_c ?_ b_V.out)|exact HB.out)) hb);(try clear hb);(try clear hb2);(try clear hk);(try clear hi)))
     go_ret
     exact ⟨by first|rfl|(simp [a_z,a_y] <;> rfl)|(simp [*, a_z,a_y] <;> rfl),by repeat (first|(with_reducible first|exact HB.out|apply a_d|apply a_b|apply a_e|refine a_c ?_ a_8.out|refine a_c ?_ b_V.out)|exact HB.out)⟩
    rw [if_pos c17] at H
    have c17b0 : (t402 == 0) = true:=beq_iff_eq.mpr c17
    have c17b1 : (t402 != 0) = false:=bne_eq_false_iff_eq.mpr c17
    clear c17
    replace H:=Option.bind_eq_some_iff.mp H
    obtain ⟨t404,A180,H⟩:=H
    replace H : ((bytes_Equal.f t399 t404).bind fun t407 => (if t407 = true then (a_g.l0 k1 l1 l0 (l0.length : Int) (wrap64 (x22_1 + 1))) else (some false))) = some r:=H
    have A18:=a_a.mk A180
    clear A180
    replace H:=Option.bind_eq_some_iff.mp H
    obtain ⟨t407,A190,H⟩:=H
    replace H : (if t407 = true then (a_g.l0 k1 l1 l0 (l0.length : Int) (wrap64 (x22_1 + 1))) else (some false)) = some r:=H
    have A19:=a_a.mk A190
    clear A190
    by_cases c20 : t407 = true
    ·subst c20
     have H1 : (a_g.l0 k1 l1 l0 (l0.length : Int) (wrap64 (x22_1 + 1))) = some r:=by rw [if_pos rfl] at H;exact H
     clear H
     have H:=H1
     clear H1
     have H':=a_a.mk H
     clear H
     have p393 : 0 ≤ (x22_1 : Int):=of_decide_eq_true (by first|(with_reducible assumption)|assumption)
     have q393 : x22_1 < (l0.length : Int):=of_decide_eq_true (by first|(with_reducible assumption)|assumption)
     obtain ⟨ad393,A393_0,c393_0,e393,b_g,b_C,b_D⟩:=d_T HR0.out x22_1 p393 q393
     cases e393
     replace b_g:=(HB.out.cell (World.block_lt_of_cell? w _ b_g)).trans b_g
     have c_e:=a_a.mk b_D
     have c_f:=a_a.mk b_C
     clear b_D b_C
     replace p393:=eq_true p393
     replace q393:=eq_true q393
     go_wp2_with (first|((with_reducible refine a_w (N:=6) rfl ?_);(try (refine a_H (by rfl) ?_;dsimp only));refine a_v ?hg (N:=6) ?hd (cs:=#[.slice none 0 0]) (t:=26) ?hr ?_;(case hd => rfl);(case hg => rfl);(case hr => first|(go_simp;done)|(go_simp;rfl));intro b_p hg w21 hbox hb;have a_Z:=a_a.mk (hbox);have f_7:=a_a.mk ((by rw [hg];exact (a_j (lup_ HB.out)) : w.heap.size ≤ b_p));have a_8:=a_a.mk ((by rw [hg];exact (a_j (lup_ HB.out)) : w.heap.size ≤ b_p));replace HB:=a_a.mk (a_i (lup_ HB.out) hb);clear hb hbox hg;have h_d : w21.cell? ⟨b_p,0,none⟩ = some (.slice none 0 0):=(a_m a_Z.out 0).trans rfl;have h_e:=a_k a_Z.out 0)|((with_reducible refine a_B (f:=11) rfl ?_);refine a_X (some 30) rfl rfl Try.func11 (by kernel_rfl) rfl #[.agg #[.slice A393_0 ((b_s l0 x22_1).f0).length c393_0]] rfl (by (try simp only [List.map_toArray,List.map_cons,List.map_nil]);first|done|rfl|(simp only [List.length_drop,List.length_take];rfl)) ?_;(with_reducible refine (a_T.calls _ _ ((b_s l0 x22_1).f0) t395 _ ?side1 ?side2 A13.out).mono ?_);(case side1 => exact Kd.a_O c_e.out (by repeat (first|(with_reducible first|exact HB.out|apply a_d|apply a_b|apply a_e|refine a_c ?_ a_8.out)|exact HB.out)));(case side2 => exact c_f.out);rintro e w23 ⟨v396,rfl,ho0,hb⟩;refine ⟨_,rfl,?_⟩;have a_3:=a_a.mk (Kd.a_S ho0 (a_j (by repeat (first|(with_reducible first|exact HB.out|apply a_d|apply a_b|apply a_e|refine a_c ?_ a_8.out)|exact HB.out))));replace a_Z:=a_a.mk (a_f (g:=b_p) (o:=.cells #[.slice A393_0 ((b_s l0 x22_1).f0).length c393_0] 26 (0,0)) (by (with_reducible repeat (first|refine a_n ?_ _|refine a_q ?_|refine a_s ?_ _));refine a_L (cs:=#[.slice none 0 0]) ?_ 0 _ rfl;(with_reducible repeat (first|refine a_n ?_ _|refine a_q ?_|refine a_s ?_ _));exact a_Z.out) hb);replace HB:=a_a.mk (a_i (by repeat (first|(with_reducible first|exact HB.out|apply a_d|apply a_b|apply a_e|refine a_c ?_ a_8.out)|exact HB.out)) hb);(try clear hb);(try clear hb2);(try clear hk);(try clear hi);(try clear ho0))|((with_reducible refine a_w (N:=7) rfl ?_);(try (refine a_H (by rfl) ?_;dsimp only));refine a_v ?hg (N:=7) ?hd (cs:=#[.slice none 0 0]) (t:=26) ?hr ?_;(case hd => rfl);(case hg => rfl);(case hr => first|(go_simp;done)|(go_simp;rfl));intro b_b hg w24 hbox hb;have a_6:=a_a.mk (hbox);have g_P:=a_a.mk ((by rw [hg];exact (a_j (by repeat (first|(with_reducible first|exact HB.out|apply a_d|apply a_b|apply a_e|refine a_c ?_ a_8.out)|exact HB.out))) : w.heap.size ≤ b_b));have b_V:=a_a.mk ((by rw [hg];exact (a_j (by repeat (first|(with_reducible first|exact HB.out|apply a_d|apply a_b|apply a_e|refine a_c ?_ a_8.out)|exact HB.out))) : w.heap.size ≤ b_b));have b_m:=a_a.mk ((by rw [hg];exact Nat.ne_of_lt (a_o (bup_ a_Z.out)) : b_p ≠ b_b));have b_Q:=a_a.mk ((by rw [hg];exact Nat.ne_of_gt (a_o (bup_ a_Z.out)) : b_b ≠ b_p));replace a_3:=a_a.mk (Kd.a_F (rup_ a_3.out) hb);replace a_Z:=a_a.mk (a_f (bup_ a_Z.out) hb);replace HB:=a_a.mk (a_i (by repeat (first|(with_reducible first|exact HB.out|apply a_d|apply a_b|apply a_e|refine a_c ?_ a_8.out)|exact HB.out)) hb);clear hb hbox hg;obtain ⟨Ao25,co25,eo25⟩:=Kd.a_P a_3.out;subst eo25;have j_X:=b_Q.out;have j_Y:=b_m.out;have f_E : w24.cell? ⟨b_b,0,none⟩ = some (.slice none 0 0):=(a_m a_6.out 0).trans rfl;have f_F:=a_k a_6.out 0)|((with_reducible refine a_B (f:=24) rfl ?_);refine a_X (some 33) rfl rfl Try.func24 (by kernel_rfl) rfl #[.agg #[.slice Ao25 t395.length co25]] rfl (by (try simp only [List.map_toArray,List.map_cons,List.map_nil]);first|done|rfl|(simp only [List.length_drop,List.length_take];rfl)) ?_;(with_reducible refine (a_D.calls k1 _ _ t395 t399 t402 _ ?side1 ?side2 A14.out).mono ?_);(case side1 => refine (Kd.a_A (e:=31) (base:=w.heap.size) (ok:=fun k_ => True) (n:=t395.length) (c:=co25) ?_).2.2;exact (by (with_reducible repeat (first|apply Kd.a_J|apply Kd.a_I|apply Kd.a_M));exact (Kd.a_U (Kd.b_i (p:=⟨b_b,0,none⟩) (Kd.a_N a_3.out a_6.out (by decide)) (fun _ hk => hk.2) (.slice Ao25 t395.length co25)) (fun _ h_ => h_.1))));(case side2 => exact (Kd.a_A a_3.out).2.1);rintro e w28 ⟨v400,rfl,ho0,hb⟩;refine ⟨_,rfl,?_⟩;have b_X:=a_a.mk (Kd.a_S ho0 (a_j (by repeat (first|(with_reducible first|exact HB.out|apply a_d|apply a_b|apply a_e|refine a_c ?_ a_8.out|refine a_c ?_ b_V.out)|exact HB.out))));replace a_3:=a_a.mk (Kd.a_F (by (with_reducible repeat (first|apply Kd.a_J|apply Kd.a_I|apply Kd.a_M));exact (Kd.a_U (Kd.b_i (p:=⟨b_b,0,none⟩) (Kd.a_N a_3.out a_6.out (by decide)) (fun _ hk => hk.2) (.slice Ao25 t395.length co25)) (fun _ h_ => h_.1))) hb);replace a_Z:=a_a.mk (a_f (g:=b_p) (o:=.cells #[.slice A393_0 ((b_s l0 x22_1).f0).length c393_0] 26 (0,0)) (by (with_reducible repeat (first|refine a_n ?_ _|refine a_q ?_|refine a_s ?_ _));refine a_G ?_ b_m.out _;(with_reducible repeat (first|refine a_n ?_ _|refine a_q ?_|refine a_s ?_ _));exact a_Z.out) hb);replace a_6:=a_a.mk (a_f (g:=b_b) (o:=.cells #[.slice Ao25 t395.length co25] 26 (0,0)) (by (with_reducible repeat (first|refine a_n ?_ _|refine a_q ?_|refine a_s ?_ _));refine a_L (cs:=#[.slice none 0 0]) ?_ 0 _ rfl;(with_reducible repeat (first|refine a_n ?_ _|refine a_q ?_|refine a_s ?_ _));exact a_6.out) hb);replace HB:=a_a.mk (a_i (by repeat (first|(with_reducible first|exact HB.out|apply a_d|apply a_b|apply a_e|refine a_c ?_ a_8.out|refine a_c ?_ b_V.out)|exact HB.out)) hb);(try clear hb);(try clear hb2);(try clear hk);(try clear hi);(try clear ho0);have e_z : w28.cell? ⟨b_b,0,none⟩ = some (.slice Ao25 t395.length co25):=(a_m a_6.out 0).trans rfl;have e_A:=a_k a_6.out 0)|((with_reducible refine a_B (f:=16) rfl ?_);refine a_X (some 37) rfl rfl Try.func16 (by kernel_rfl) rfl #[.agg #[.slice Ao25 t395.length co25]] rfl (by (try simp only [List.map_toArray,List.map_cons,List.map_nil]);first|done|rfl|(simp only [List.length_drop,List.length_take];rfl)) ?_;(with_reducible refine (a_h.calls k1 _ _ t395 true _ ?side1 ?side2 A15.out).mono ?_);(case side1 => repeat (first|exact (Kd.a_A a_3.out).2.2|(with_reducible refine Kd.a_Q ?_ _)|(with_reducible refine Kd.a_R ?_ _)|(with_reducible refine Kd.a_0 ?_)));(case side2 => exact (Kd.a_A a_3.out).2.1);rintro e w30 ⟨rfl,hb⟩;refine ⟨_,rfl,?_⟩;replace a_3:=a_a.mk (Kd.a_F (rup_ a_3.out) hb);replace b_X:=a_a.mk (Kd.a_F (rup_ b_X.out) hb);replace a_Z:=a_a.mk (a_f (bup_ a_Z.out) hb);replace a_6:=a_a.mk (a_f (bup_ a_6.out) hb);replace HB:=a_a.mk (a_i (by repeat (first|(with_reducible first|exact HB.out|apply a_d|apply a_b|apply a_e|refine a_c ?_ a_8.out|refine a_c ?_ b_V.out)|exact HB.out)) hb);(try clear hb);(try clear hb2);(try clear hk);(try clear hi);have f_A : w30.cell? ⟨b_b,0,none⟩ = some (.slice Ao25 t395.length co25):=(a_m a_6.out 0).trans rfl;have f_B:=a_k a_6.out 0)|(go_at_call 26;(with_reducible refine (a_t.calls k1 _ _ t395 t404 _ ?side1 ?side2 A18.out).mono ?_);(case side1 => repeat (first|exact (Kd.a_A a_3.out).2.2|(with_reducible refine Kd.a_Q ?_ _)|(with_reducible refine Kd.a_R ?_ _)|(with_reducible refine Kd.a_0 ?_)));(case side2 => exact (Kd.a_A a_3.out).2.1);rintro e w32 ⟨v405,rfl,ho0,hb⟩;have f_G:=a_a.mk (Kd.a_S (Kd.c_v ho0 (Kd.R_lt (rup_ b_X.out))) (a_j (by repeat (first|(with_reducible first|exact HB.out|apply a_d|apply a_b|apply a_e|refine a_c ?_ a_8.out|refine a_c ?_ b_V.out)|exact HB.out))));replace a_3:=a_a.mk (Kd.a_F (rup_ a_3.out) hb);replace b_X:=a_a.mk (Kd.b_I (rup_ b_X.out) (Kd.c_g ho0) hb);replace a_Z:=a_a.mk (a_f (bup_ a_Z.out) hb);replace a_6:=a_a.mk (a_f (bup_ a_6.out) hb);replace HB:=a_a.mk (a_i (by repeat (first|(with_reducible first|exact HB.out|apply a_d|apply a_b|apply a_e|refine a_c ?_ a_8.out|refine a_c ?_ b_V.out)|exact HB.out)) hb);(try clear hb);(try clear hb2);(try clear hk);(try clear hi);(try clear ho0);obtain ⟨Ao33,co33,eo33⟩:=Kd.a_P b_X.out;subst eo33;obtain ⟨Ao34,co34,eo34⟩:=Kd.a_P f_G.out;subst eo34)|(go_at_call 25;(with_reducible refine (bytes_Equal.calls _ _ t399 _ _ t404 true _ ?side1 ?side2 ?side3 ?side4 A19.out).mono ?_);(case side1 => repeat (first|exact (Kd.a_A b_X.out).2.2|(with_reducible refine Kd.a_Q ?_ _)|(with_reducible refine Kd.a_R ?_ _)|(with_reducible refine Kd.a_0 ?_)));(case side2 => exact (Kd.a_A b_X.out).2.1);(case side3 => repeat (first|exact (Kd.a_A f_G.out).2.2|(with_reducible refine Kd.a_Q ?_ _)|(with_reducible refine Kd.a_R ?_ _)|(with_reducible refine Kd.a_0 ?_)));(case side4 => exact (Kd.a_A f_G.out).2.1);rintro e w' ⟨rfl,⟨nd,rfl⟩⟩))
     go_roundg k1
     case measure => have:=HK1.out;omega
     case rel => exact ⟨(wrap64 (x22_1 + 1)),(by first|rfl|(simp;done)|(simp [*];done)),H',⟨by have:=HK1.out;omega⟩,⟨by repeat (first|(with_reducible first|exact HB.out|apply a_d|apply a_b|apply a_e|refine a_c ?_ a_8.out|refine a_c ?_ b_V.out)|exact HB.out)⟩⟩
    replace c20:=Bool.eq_false_iff.mpr c20
    subst c20
    have H1 : (some false) = some r:=by rw [if_neg (show ¬ (false = true) by decide)] at H;exact H
    clear H
    have H:=H1
    clear H1
    obtain rfl:=Option.some.inj H
    have p393 : 0 ≤ (x22_1 : Int):=of_decide_eq_true (by first|(with_reducible assumption)|assumption)
    have q393 : x22_1 < (l0.length : Int):=of_decide_eq_true (by first|(with_reducible assumption)|assumption)
    obtain ⟨ad393,A393_0,c393_0,e393,b_g,b_C,b_D⟩:=d_T HR0.out x22_1 p393 q393
    cases e393
    replace b_g:=(HB.out.cell (World.block_lt_of_cell? w _ b_g)).trans b_g
    have c_e:=a_a.mk b_D
    have c_f:=a_a.mk b_C
    clear b_D b_C
    replace p393:=eq_true p393
    replace q393:=eq_true q393
    go_wp2_with (first|((with_reducible refine a_w (N:=6) rfl ?_);(try (refine a_H (by rfl) ?_;dsimp only));refine a_v ?hg (N:=6) ?hd (cs:=#[.slice none 0 0]) (t:=26) ?hr ?_;(case hd => rfl);(case hg => rfl);(case hr => first|(go_simp;done)|(go_simp;rfl));intro b_p hg w35 hbox hb;have a_Z:=a_a.mk (hbox);have f_7:=a_a.mk ((by rw [hg];exact (a_j (lup_ HB.out)) : w.heap.size ≤ b_p));have a_8:=a_a.mk ((by rw [hg];exact (a_j (lup_ HB.out)) : w.heap.size ≤ b_p));replace HB:=a_a.mk (a_i (lup_ HB.out) hb);clear hb hbox hg;have e_B : w35.cell? ⟨b_p,0,none⟩ = some (.slice none 0 0):=(a_m a_Z.out 0).trans rfl;have e_C:=a_k a_Z.out 0)|((with_reducible refine a_B (f:=11) rfl ?_);refine a_X (some 30) rfl rfl Try.func11 (by kernel_rfl) rfl #[.agg #[.slice A393_0 ((b_s l0 x22_1).f0).length c393_0]] rfl (by (try simp only [List.map_toArray,List.map_cons,List.map_nil]);first|done|rfl|(simp only [List.length_drop,List.length_take];rfl)) ?_;(with_reducible refine (a_T.calls _ _ ((b_s l0 x22_1).f0) t395 _ ?side1 ?side2 A13.out).mono ?_);(case side1 => exact Kd.a_O c_e.out (by repeat (first|(with_reducible first|exact HB.out|apply a_d|apply a_b|apply a_e|refine a_c ?_ a_8.out)|exact HB.out)));(case side2 => exact c_f.out);rintro e w37 ⟨v396,rfl,ho0,hb⟩;refine ⟨_,rfl,?_⟩;have a_3:=a_a.mk (Kd.a_S ho0 (a_j (by repeat (first|(with_reducible first|exact HB.out|apply a_d|apply a_b|apply a_e|refine a_c ?_ a_8.out)|exact HB.out))));replace a_Z:=a_a.mk (a_f (g:=b_p) (o:=.cells #[.slice A393_0 ((b_s l0 x22_1).f0).length c393_0] 26 (0,0)) (by (with_reducible repeat (first|refine a_n ?_ _|refine a_q ?_|refine a_s ?_ _));refine a_L (cs:=#[.slice none 0 0]) ?_ 0 _ rfl;(with_reducible repeat (first|refine a_n ?_ _|refine a_q ?_|refine a_s ?_ _));exact a_Z.out) hb);replace HB:=a_a.mk (a_i (by repeat (first|(with_reducible first|exact HB.out|apply a_d|apply a_b|apply a_e|refine a_c ?_ a_8.out)|exact HB.out)) hb);(try clear hb);(try clear hb2);(try clear hk);(try clear hi);(try clear ho0))|((with_reducible refine a_w (N:=7) rfl ?_);(try (refine a_H (by rfl) ?_;dsimp only));refine a_v ?hg (N:=7) ?hd (cs:=#[.slice none 0 0]) (t:=26) ?hr ?_;(case hd => rfl);(case hg => rfl);(case hr => first|(go_simp;done)|(go_simp;rfl));intro b_b hg w38 hbox hb;have a_6:=a_a.mk (hbox);have g_P:=a_a.mk ((by rw [hg];exact (a_j (by repeat (first|(with_reducible first|exact HB.out|apply a_d|apply a_b|apply a_e|refine a_c ?_ a_8.out)|exact HB.out))) : w.heap.size ≤ b_b));have b_V:=a_a.mk ((by rw [hg];exact (a_j (by repeat (first|(with_reducible first|exact HB.out|apply a_d|apply a_b|apply a_e|refine a_c ?_ a_8.out)|exact HB.out))) : w.heap.size ≤ b_b));have b_m:=a_a.mk ((by rw [hg];exact Nat.ne_of_lt (a_o (bup_ a_Z.out)) : b_p ≠ b_b));have b_Q:=a_a.mk ((by rw [hg];exact Nat.ne_of_gt (a_o (bup_ a_Z.out)) : b_b ≠ b_p));replace a_3:=a_a.mk (Kd.a_F (rup_ a_3.out) hb);replace a_Z:=a_a.mk (a_f (bup_ a_Z.out) hb);replace HB:=a_a.mk (a_i (by repeat (first|(with_reducible first|exact HB.out|apply a_d|apply a_b|apply a_e|refine a_c ?_ a_8.out)|exact HB.out)) hb);clear hb hbox hg;obtain ⟨Ao39,co39,eo39⟩:=Kd.a_P a_3.out;subst eo39;have l_h:=b_Q.out;have l_i:=b_m.out;have f_x : w38.cell? ⟨b_b,0,none⟩ = some (.slice none 0 0):=(a_m a_6.out 0).trans rfl;have f_y:=a_k a_6.out 0)|((with_reducible refine a_B (f:=24) rfl ?_);refine a_X (some 33) rfl rfl Try.func24 (by kernel_rfl) rfl #[.agg #[.slice Ao39 t395.length co39]] rfl (by (try simp only [List.map_toArray,List.map_cons,List.map_nil]);first|done|rfl|(simp only [List.length_drop,List.length_take];rfl)) ?_;(with_reducible refine (a_D.calls k1 _ _ t395 t399 t402 _ ?side1 ?side2 A14.out).mono ?_);(case side1 => refine (Kd.a_A (e:=31) (base:=w.heap.size) (ok:=fun k_ => True) (n:=t395.length) (c:=co39) ?_).2.2;exact (by (with_reducible repeat (first|apply Kd.a_J|apply Kd.a_I|apply Kd.a_M));exact (Kd.a_U (Kd.b_i (p:=⟨b_b,0,none⟩) (Kd.a_N a_3.out a_6.out (by decide)) (fun _ hk => hk.2) (.slice Ao39 t395.length co39)) (fun _ h_ => h_.1))));(case side2 => exact (Kd.a_A a_3.out).2.1);rintro e w42 ⟨v400,rfl,ho0,hb⟩;refine ⟨_,rfl,?_⟩;have b_X:=a_a.mk (Kd.a_S ho0 (a_j (by repeat (first|(with_reducible first|exact HB.out|apply a_d|apply a_b|apply a_e|refine a_c ?_ a_8.out|refine a_c ?_ b_V.out)|exact HB.out))));replace a_3:=a_a.mk (Kd.a_F (by (with_reducible repeat (first|apply Kd.a_J|apply Kd.a_I|apply Kd.a_M));exact (Kd.a_U (Kd.b_i (p:=⟨b_b,0,none⟩) (Kd.a_N a_3.out a_6.out (by decide)) (fun _ hk => hk.2) (.slice Ao39 t395.length co39)) (fun _ h_ => h_.1))) hb);replace a_Z:=a_a.mk (a_f (g:=b_p) (o:=.cells #[.slice A393_0 ((b_s l0 x22_1).f0).length c393_0] 26 (0,0)) (by (with_reducible repeat (first|refine a_n ?_ _|refine a_q ?_|refine a_s ?_ _));refine a_G ?_ b_m.out _;(with_reducible repeat (first|refine a_n ?_ _|refine a_q ?_|refine a_s ?_ _));exact a_Z.out) hb);replace a_6:=a_a.mk (a_f (g:=b_b) (o:=.cells #[.slice Ao39 t395.length co39] 26 (0,0)) (by (with_reducible repeat (first|refine a_n ?_ _|refine a_q ?_|refine a_s ?_ _));refine a_L (cs:=#[.slice none 0 0]) ?_ 0 _ rfl;(with_reducible repeat (first|refine a_n ?_ _|refine a_q ?_|refine a_s ?_ _));exact a_6.out) hb);replace HB:=a_a.mk (a_i (by repeat (first|(with_reducible first|exact HB.out|apply a_d|apply a_b|apply a_e|refine a_c ?_ a_8.out|refine a_c ?_ b_V.out)|exact HB.out)) hb);(try clear hb);(try clear hb2);(try clear hk);(try clear hi);(try clear ho0);have h_f : w42.cell? ⟨b_b,0,none⟩ = some (.slice Ao39 t395.length co39):=(a_m a_6.out 0).trans rfl;have h_g:=a_k a_6.out 0)|((with_reducible refine a_B (f:=16) rfl ?_);refine a_X (some 37) rfl rfl Try.func16 (by kernel_rfl) rfl #[.agg #[.slice Ao39 t395.length co39]] rfl (by (try simp only [List.map_toArray,List.map_cons,List.map_nil]);first|done|rfl|(simp only [List.length_drop,List.length_take];rfl)) ?_;(with_reducible refine (a_h.calls k1 _ _ t395 true _ ?side1 ?side2 A15.out).mono ?_);(case side1 => repeat (first|exact (Kd.a_A a_3.out).2.2|(with_reducible refine Kd.a_Q ?_ _)|(with_reducible refine Kd.a_R ?_ _)|(with_reducible refine Kd.a_0 ?_)));(case side2 => exact (Kd.a_A a_3.out).2.1);rintro e w44 ⟨rfl,hb⟩;refine ⟨_,rfl,?_⟩;replace a_3:=a_a.mk (Kd.a_F (rup_ a_3.out) hb);replace b_X:=a_a.mk (Kd.a_F (rup_ b_X.out) hb);replace a_Z:=a_a.mk (a_f (bup_ a_Z.out) hb);replace a_6:=a_a.mk (a_f (bup_ a_6.out) hb);replace HB:=a_a.mk (a_i (by repeat (first|(with_reducible first|exact HB.out|apply a_d|apply a_b|apply a_e|refine a_c ?_ a_8.out|refine a_c ?_ b_V.out)|exact HB.out)) hb);(try clear hb);(try clear hb2);(try clear hk);(try clear hi);have h_h : w44.cell? ⟨b_b,0,none⟩ = some (.slice Ao39 t395.length co39):=(a_m a_6.out 0).trans rfl;have h_i:=a_k a_6.out 0)|(go_at_call 26;(with_reducible refine (a_t.calls k1 _ _ t395 t404 _ ?side1 ?side2 A18.out).mono ?_);(case side1 => repeat (first|exact (Kd.a_A a_3.out).2.2|(with_reducible refine Kd.a_Q ?_ _)|(with_reducible refine Kd.a_R ?_ _)|(with_reducible refine Kd.a_0 ?_)));(case side2 => exact (Kd.a_A a_3.out).2.1);rintro e w46 ⟨v405,rfl,ho0,hb⟩;have f_G:=a_a.mk (Kd.a_S (Kd.c_v ho0 (Kd.R_lt (rup_ b_X.out))) (a_j (by repeat (first|(with_reducible first|exact HB.out|apply a_d|apply a_b|apply a_e|refine a_c ?_ a_8.out|refine a_c ?_ b_V.out)|exact HB.out))));replace a_3:=a_a.mk (Kd.a_F (rup_ a_3.out) hb);replace b_X:=a_a.mk (Kd.b_I (rup_ b_X.out) (Kd.c_g ho0) hb);replace a_Z:=a_a.mk (a_f (bup_ a_Z.out) hb);replace a_6:=a_a.mk (a_f (bup_ a_6.out) hb);replace HB:=a_a.mk (a_i (by repeat (first|(with_reducible first|exact HB.out|apply a_d|apply a_b|apply a_e|refine a_c ?_ a_8.out|refine a_c ?_ b_V.out)|exact HB.out)) hb);(try clear hb);(try clear hb2);(try clear hk);(try clear hi);(try clear ho0);obtain ⟨Ao47,co47,eo47⟩:=Kd.a_P b_X.out;subst eo47;obtain ⟨Ao48,co48,eo48⟩:=Kd.a_P f_G.out;subst eo48)|(go_at_call 25;(with_reducible refine (bytes_Equal.calls _ _ t399 _ _ t404 false _ ?side1 ?side2 ?side3 ?side4 A19.out).mono ?_);(case side1 => repeat (first|exact (Kd.a_A b_X.out).2.2|(with_reducible refine Kd.a_Q ?_ _)|(with_reducible refine Kd.a_R ?_ _)|(with_reducible refine Kd.a_0 ?_)));(case side2 => exact (Kd.a_A b_X.out).2.1);(case side3 => repeat (first|exact (Kd.a_A f_G.out).2.2|(with_reducible refine Kd.a_Q ?_ _)|(with_reducible refine Kd.a_R ?_ _)|(with_reducible refine Kd.a_0 ?_)));(case side4 => exact (Kd.a_A f_G.out).2.1);rintro e w' ⟨rfl,⟨nd,rfl⟩⟩))
    go_ret
    exact ⟨by first|rfl|(simp [a_z,a_y] <;> rfl)|(simp [*, a_z,a_y] <;> rfl),by repeat (first|(with_reducible first|exact HB.out|apply a_d|apply a_b|apply a_e|refine a_c ?_ a_8.out|refine a_c ?_ b_V.out)|exact HB.out)⟩
 case rest =>
  clear HC5
  try clear c1
  try clear c2
  try clear p2
  try clear c3
  try clear p3
  try clear q3
  try clear hx3
  try clear c4
  try clear c5
  try clear c6
  try clear p6
  try clear c7
  try clear c7b0
  try clear c8
  try clear c8b0
  try clear c9
  try clear c9b0
  try clear c10
  try clear c10b0
  try clear c10b1
  try clear c11
  try clear c16
  try clear c17
  try clear c17b0
  try clear c17b1
  try clear c20
  try clear c24
  try clear c26
  try clear c39
  try clear p39
  try clear q39
  try clear hx39
  try clear c40
  try clear c54
  try clear c59
  try clear c59b0
  try clear c59b1
  try clear c60
  try clear c60b0
  try clear c60b1
  try clear c60b2
  try clear p64
  try clear c66
  try clear c77
  try clear c88
  try clear f_C
  try clear h_d
  try clear f_E
  try clear e_z
  try clear f_A
  try clear e_B
  try clear f_x
  try clear h_f
  try clear h_h
  try clear g_6
  try clear g_8
  try clear h_a
  try clear g_U
  try clear g_W
  try clear g_Y
  try clear g_0
  try clear g_2
  try clear g_4
  try clear g_N
  try clear g_Q
  try clear g_S
  try clear f_D
  try clear h_e
  try clear f_F
  try clear e_A
  try clear f_B
  try clear e_C
  try clear f_y
  try clear h_g
  try clear h_i
  try clear g_7
  try clear g_9
  try clear h_b
  try clear g_V
  try clear g_X
  try clear g_Z
  try clear g_1
  try clear g_3
  try clear g_5
  try clear g_O
  try clear g_R
  try clear g_T
  try clear b_g
  try clear p2
  try clear p393
  try clear q393
  obtain ⟨kq,HA,HJ4,HB⟩:=hcut
  cases kq with
  | zero => exact absurd HA.out (by simp [a_g.j1])
  | succ kj4 =>
   have H:=HA.out
   clear HA
   simp only [a_g.j1] at H
   have H':=a_a.mk H
   clear H
   go_wp2
   go_loopg [66] kj4 (fun kq v66 w' => ∃ (x66_2 : Int),v66 = .int .i64 x66_2 ∧ a_a (a_g.l1 kq l1 (l1.length : Int) x66_2 = some r) ∧ a_a (kq ≤ kj4) ∧ a_a (Below w.heap.size w w'))
   case atStart => exact ⟨(0),(by first|rfl|(simp;done)|(simp [*];done)),H',⟨Nat.le_refl _⟩,⟨by repeat (first|(with_reducible first|exact HB.out|apply a_d|apply a_b|apply a_e)|exact HB.out)⟩⟩
   case round =>
    clear H'
    try clear c1
    try clear c2
    try clear p2
    try clear c3
    try clear p3
    try clear q3
    try clear hx3
    try clear c4
    try clear c5
    try clear c6
    try clear p6
    try clear c7
    try clear c7b0
    try clear c8
    try clear c8b0
    try clear c9
    try clear c9b0
    try clear c10
    try clear c10b0
    try clear c10b1
    try clear c11
    try clear c16
    try clear c17
    try clear c17b0
    try clear c17b1
    try clear c20
    try clear c24
    try clear c26
    try clear c39
    try clear p39
    try clear q39
    try clear hx39
    try clear c40
    try clear c54
    try clear c59
    try clear c59b0
    try clear c59b1
    try clear c60
    try clear c60b0
    try clear c60b1
    try clear c60b2
    try clear p64
    try clear c66
    try clear c77
    try clear c88
    try clear f_C
    try clear h_d
    try clear f_E
    try clear e_z
    try clear f_A
    try clear e_B
    try clear f_x
    try clear h_f
    try clear h_h
    try clear g_6
    try clear g_8
    try clear h_a
    try clear g_U
    try clear g_W
    try clear g_Y
    try clear g_0
    try clear g_2
    try clear g_4
    try clear g_N
    try clear g_Q
    try clear g_S
    try clear f_D
    try clear h_e
    try clear f_F
    try clear e_A
    try clear f_B
    try clear e_C
    try clear f_y
    try clear h_g
    try clear h_i
    try clear g_7
    try clear g_9
    try clear h_b
    try clear g_V
    try clear g_X
    try clear g_Z
    try clear g_1
    try clear g_3
    try clear g_5
    try clear g_O
    try clear g_R
    try clear g_T
    try clear b_g
    try clear p2
    try clear p3
    try clear p39
    try clear p393
    try clear p6
    try clear p64
    try clear q3
    try clear q39
    try clear q393
    obtain ⟨x66_2,rfl,HA,HK2,HB⟩:=hrel
    cases gk with
    | zero => exact absurd HA.out (by simp [a_g.l1])
    | succ k2 =>
     have H:=HA.out
     clear HA
     simp only [a_g.l1] at H
     by_cases c93 : x66_2 < (l1.length : Int)
     rotate_left
     ·rw [if_neg c93] at H
      have c93b0 : decide (x66_2 < (l1.length : Int)) = false:=decide_eq_false c93
      clear c93
      obtain rfl:=Option.some.inj H
      go_wp2
      go_ret
      exact ⟨by first|rfl|(simp [a_z,a_y] <;> rfl)|(simp [*, a_z,a_y] <;> rfl),by repeat (first|(with_reducible first|exact HB.out|apply a_d|apply a_b|apply a_e)|exact HB.out)⟩
     rw [if_pos c93] at H
     have c93b0 : decide (x66_2 < (l1.length : Int)) = true:=decide_eq_true c93
     clear c93
     by_cases c94 : 0 ≤ x66_2
     rotate_left
     ·rw [if_neg c94] at H
      exact absurd H (by simp)
     rw [if_pos c94] at H
     have c94b0 : decide (0 ≤ x66_2) = true:=decide_eq_true c94
     clear c94
     by_cases c95 : x66_2 < (l1.length : Int)
     rotate_left
     ·rw [if_neg c95] at H
      exact absurd H (by simp)
     rw [if_pos c95] at H
     have c95b0 : decide (x66_2 < (l1.length : Int)) = true:=decide_eq_true c95
     clear c95
     by_cases c96 : x66_2 = 12
     ·rw [if_pos c96] at H
      have c96b0 : (x66_2 == 12) = true:=beq_iff_eq.mpr c96
      have c96b1 : (x66_2 != 12) = false:=bne_eq_false_iff_eq.mpr c96
      clear c96
      obtain rfl:=Option.some.inj H
      have p408 : 0 ≤ (x66_2 : Int):=of_decide_eq_true (by first|(with_reducible assumption)|assumption)
      have q408 : x66_2 < (l1.length : Int):=of_decide_eq_true (by first|(with_reducible assumption)|assumption)
      obtain ⟨ad408,A408_0,c408_0,e408,b_Y,c_p,c_q⟩:=h_F HR1.out x66_2 p408 q408
      cases e408
      replace b_Y:=(HB.out.cell (World.block_lt_of_cell? w _ b_Y)).trans b_Y
      have d_B:=a_a.mk c_q
      have d_C:=a_a.mk c_p
      clear c_q c_p
      replace p408:=eq_true p408
      replace q408:=eq_true q408
      go_wp2
      go_ret
      exact ⟨by first|rfl|(simp [a_z,a_y] <;> rfl)|(simp [*, a_z,a_y] <;> rfl),by repeat (first|(with_reducible first|exact HB.out|apply a_d|apply a_b|apply a_e)|exact HB.out)⟩
     rw [if_neg c96] at H
     have c96b0 : (x66_2 == 12) = false:=beq_eq_false_iff_ne.mpr c96
     have c96b1 : (x66_2 != 12) = true:=bne_iff_ne.mpr c96
     obtain ⟨y409,hy409⟩ : ∃ y_ : List Int,y_ = (([] : List Int)):=⟨_,rfl⟩
     replace H : (if 0 ≤ (mn ((b_l l1 x66_2).length : Int) 300) then (if (mn ((b_l l1 x66_2).length : Int) 300) ≤ ((b_l l1 x66_2).length : Int) then (if y409.length + ((b_l l1 x66_2).take ((mn ((b_l l1 x66_2).length : Int) 300) : Int).toNat).length < 140737488355328 then ((some (y409 ++ ((b_l l1 x66_2).take ((mn ((b_l l1 x66_2).length : Int) 300) : Int).toNat) : List Int)).bind fun y413 => ((a_C.f k2 y413).bind fun bt416 => ((some (([] : List Int) : List Int)).bind fun y421 => (if y421.length + y413.length < 140737488355328 then ((a_l.f k2 (y421 ++ y413)).bind fun bt427 => (if bt416.2 = bt427.2 then ((a_r.f k2 bt416.1 bt427.1).bind fun t432 => (if t432 = true then (a_g.l1 k2 l1 (l1.length : Int) (wrap64 (x66_2 + 1))) else (some false))) else (some false))) else (none))))) else (none)) else (none)) else (none)) = some r:=by first|(rw [hy409];with_reducible exact H)|(have H2_:=(Option.bind_some _ _).symm.trans H;rw [hy409];with_reducible exact H2_)|(have H2_:=(Option.bind_some _ _).symm.trans H;with_reducible exact H2_)|with_reducible exact H|(rw [hy409];exact H)|exact H
     have Ny409:=a_a.mk hy409
     clear hy409
     obtain ⟨ji97,hji97⟩ : ∃ j_ : Int,(mn ((b_l l1 x66_2).length : Int) 300) = j_:=⟨_,rfl⟩
     replace H : (if 0 ≤ (ji97) then (if (ji97) ≤ ((b_l l1 x66_2).length : Int) then (if y409.length + ((b_l l1 x66_2).take ((ji97) : Int).toNat).length < 140737488355328 then ((some (y409 ++ ((b_l l1 x66_2).take ((ji97) : Int).toNat) : List Int)).bind fun y413 => ((a_C.f k2 y413).bind fun bt416 => ((some (([] : List Int) : List Int)).bind fun y421 => (if y421.length + y413.length < 140737488355328 then ((a_l.f k2 (y421 ++ y413)).bind fun bt427 => (if bt416.2 = bt427.2 then ((a_r.f k2 bt416.1 bt427.1).bind fun t432 => (if t432 = true then (a_g.l1 k2 l1 (l1.length : Int) (wrap64 (x66_2 + 1))) else (some false))) else (some false))) else (none))))) else (none)) else (none)) else (none)) = some r:=by first|(rw [hji97] at H;exact H)|(simp only [hji97] at H ⊢; exact H)
     have hji97_ : (if 300 < ((b_l l1 x66_2).length : Int) then 300 else ((b_l l1 x66_2).length : Int)) = ji97:=hji97
     by_cases c98 : 0 ≤ (ji97)
     rotate_left
     ·rw [if_neg c98] at H
      exact absurd H (by simp)
     rw [if_pos c98] at H
     have c98b0:=eq_true c98
     have c98b1 : decide (0 ≤ (ji97)) = true:=decide_eq_true c98
     clear c98
     by_cases c99 : (ji97) ≤ ((b_l l1 x66_2).length : Int)
     rotate_left
     ·rw [if_neg c99] at H
      exact absurd H (by simp)
     rw [if_pos c99] at H
     have c99b0:=eq_true c99
     have c99b1 : decide ((ji97) ≤ ((b_l l1 x66_2).length : Int)) = true:=decide_eq_true c99
     clear c99
     by_cases c100 : y409.length + ((b_l l1 x66_2).take ((ji97) : Int).toNat).length < 140737488355328
     rotate_left
     ·rw [if_neg c100] at H
      exact absurd H (by simp)
     rw [if_pos c100] at H
     have LMc100:=a_a.mk c100
     clear c100
     obtain ⟨y413,hy413⟩ : ∃ y_ : List Int,y_ = (y409 ++ ((b_l l1 x66_2).take ((ji97) : Int).toNat)):=⟨_,rfl⟩
     replace H : ((a_C.f k2 y413).bind fun bt416 => ((some (([] : List Int) : List Int)).bind fun y421 => (if y421.length + y413.length < 140737488355328 then ((a_l.f k2 (y421 ++ y413)).bind fun bt427 => (if bt416.2 = bt427.2 then ((a_r.f k2 bt416.1 bt427.1).bind fun t432 => (if t432 = true then (a_g.l1 k2 l1 (l1.length : Int) (wrap64 (x66_2 + 1))) else (some false))) else (some false))) else (none)))) = some r:=by first|(rw [hy413];with_reducible exact H)|(have H2_:=(Option.bind_some _ _).symm.trans H;rw [hy413];with_reducible exact H2_)|(have H2_:=(Option.bind_some _ _).symm.trans H;with_reducible exact H2_)|with_reducible exact H|(rw [hy413];exact H)|exact H
     have Ny413:=a_a.mk hy413
     clear hy413
     replace H:=Option.bind_eq_some_iff.mp H
     obtain ⟨⟨t416,t419⟩,A1010,H⟩:=H
     replace H : ((some (([] : List Int) : List Int)).bind fun y421 => (if y421.length + y413.length < 140737488355328 then ((a_l.f k2 (y421 ++ y413)).bind fun bt427 => (if t419 = bt427.2 then ((a_r.f k2 t416 bt427.1).bind fun t432 => (if t432 = true then (a_g.l1 k2 l1 (l1.length : Int) (wrap64 (x66_2 + 1))) else (some false))) else (some false))) else (none))) = some r:=H
     have A101:=a_a.mk A1010
     clear A1010
     obtain ⟨y421,hy421⟩ : ∃ y_ : List Int,y_ = (([] : List Int)):=⟨_,rfl⟩
     replace H : (if y421.length + y413.length < 140737488355328 then ((a_l.f k2 (y421 ++ y413)).bind fun bt427 => (if t419 = bt427.2 then ((a_r.f k2 t416 bt427.1).bind fun t432 => (if t432 = true then (a_g.l1 k2 l1 (l1.length : Int) (wrap64 (x66_2 + 1))) else (some false))) else (some false))) else (none)) = some r:=by first|(rw [hy421];with_reducible exact H)|(have H2_:=(Option.bind_some _ _).symm.trans H;rw [hy421];with_reducible exact H2_)|(have H2_:=(Option.bind_some _ _).symm.trans H;with_reducible exact H2_)|with_reducible exact H|(rw [hy421];exact H)|exact H
     have Ny421:=a_a.mk hy421
     clear hy421
     by_cases c102 : y421.length + y413.length < 140737488355328
     rotate_left
     ·rw [if_neg c102] at H
      exact absurd H (by simp)
     rw [if_pos c102] at H
     have LMc102:=a_a.mk c102
     clear c102
     obtain ⟨y424,hy424⟩ : ∃ y_ : List Int,y_ = (y421 ++ y413):=⟨_,rfl⟩
     replace H : ((a_l.f k2 y424).bind fun bt427 => (if t419 = bt427.2 then ((a_r.f k2 t416 bt427.1).bind fun t432 => (if t432 = true then (a_g.l1 k2 l1 (l1.length : Int) (wrap64 (x66_2 + 1))) else (some false))) else (some false))) = some r:=by first|(rw [hy424];with_reducible exact H)|(have H2_:=(Option.bind_some _ _).symm.trans H;rw [hy424];with_reducible exact H2_)|(have H2_:=(Option.bind_some _ _).symm.trans H;with_reducible exact H2_)|with_reducible exact H|(rw [hy424];exact H)|exact H
     have Ny424:=a_a.mk hy424
     clear hy424
     replace H:=Option.bind_eq_some_iff.mp H
     obtain ⟨⟨t427,t430⟩,A1030,H⟩:=H
     replace H : (if t419 = t430 then ((a_r.f k2 t416 t427).bind fun t432 => (if t432 = true then (a_g.l1 k2 l1 (l1.length : Int) (wrap64 (x66_2 + 1))) else (some false))) else (some false)) = some r:=H
     have A103:=a_a.mk A1030
     clear A1030
     by_cases c104 : t419 = t430
     rotate_left
     ·rw [if_neg c104] at H
      have c104b0 : (t419 == t430) = false:=beq_eq_false_iff_ne.mpr c104
      have c104b1 : (t419 != t430) = true:=bne_iff_ne.mpr c104
      obtain rfl:=Option.some.inj H
      have p408 : 0 ≤ (x66_2 : Int):=of_decide_eq_true (by first|(with_reducible assumption)|assumption)
      have q408 : x66_2 < (l1.length : Int):=of_decide_eq_true (by first|(with_reducible assumption)|assumption)
      obtain ⟨ad408,A408_0,c408_0,e408,b_Y,c_p,c_q⟩:=h_F HR1.out x66_2 p408 q408
      cases e408
      replace b_Y:=(HB.out.cell (World.block_lt_of_cell? w _ b_Y)).trans b_Y
      have d_B:=a_a.mk c_q
      have d_C:=a_a.mk c_p
      clear c_q c_p
      replace p408:=eq_true p408
      replace q408:=eq_true q408
      go_wp2_with (first|((with_reducible refine a_w (N:=73) rfl ?_);(try (refine a_H (by rfl) ?_;dsimp only));refine Kd.c_T (Kd.int .u8) _ 5 ?hg (N:=73) ?hd (xs:=([] : List Int)) (inner:=[]) (ok:=fun _ => True) (okp:=fun _ => True) ?hr ?hp (fun _ hk => hk) trivial (Below.refl _ _) (Nat.le_refl _) (by simp) ?_;(case hd => rfl);(case hg => rfl);(case hr => first|(go_simp;done)|(go_simp;rfl));(case hp => exact (Reps.none _ _));intro v410 w147 ho148 hb hg_ hnew_;clear hg_ hnew_;(first|rw [← Ny409.out] at ho148|(simp only [Int.reduceToNat] at ho148;rw [← Ny409.out] at ho148));have e_5:=a_a.mk (Kd.a_S ho148 (a_j (lup_ HB.out)));replace HB:=a_a.mk (a_i (lup_ HB.out) hb);clear hb ho148;obtain ⟨i0149,h_N,_,hsz149,_⟩:=info_parts info5;obtain ⟨hcut149,hA149,hC149⟩:=c_h (P:=Try.prog) (Value.int .u8) 0 51 5 .i64 Try.underlying51 h_N hsz149 A408_0 c408_0 (b_l l1 x66_2) (ji97) (of_decide_eq_true (by first|(with_reducible assumption)|assumption)) (of_decide_eq_true (by first|(with_reducible assumption)|assumption)) d_C.out;have e_d:=a_a.mk (Kd.c_k (h1:=fun _ => rfl) (hA149 _ (Kd.b_0 d_B.out)));have i_W:=a_a.mk hC149;clear hA149 hC149 h_N hsz149)|((with_reducible refine b_a (b:=.append) (xs:=#[.tmp 73,.tmp 78]) rfl ?_);(try (refine a_H (by rfl) ?_;dsimp only));at_builtin;refine Kd.b_w (Kd.int .u8) (w0:=w) w.heap.size rfl (.tmp 73) (.tmp 78) 51 5 (.int .u8 0) 1 rfl Try.underlying51 info5 rfl (by decide) (by omega) v410 y409 ((b_l l1 x66_2).take ((ji97) : Int).toNat) _ _ _ (fun _ => True) (fun _ => False) rfl rfl ?aO ?aR (fun _ _ h => h) (fun _ h => h.elim) ?aF ?aB ?aS ?aL ?_;(case aR => first|(refine g_h (show ((b_l l1 x66_2).take ((ji97) : Int).toNat).length = (ji97).toNat from (by rw [List.length_take];have h_ : ((ji97) : Int) ≤ ((b_l l1 x66_2).length : Int):=of_decide_eq_true (by first|(with_reducible assumption)|assumption);omega)) ?_;repeat (first|exact (Kd.a_O e_d.out HB.out)|(with_reducible refine Kd.a_Q ?_ _)|(with_reducible refine Kd.a_R ?_ _)|(with_reducible refine Kd.a_0 ?_)))|(rw [← show ((b_l l1 x66_2).take ((ji97) : Int).toNat).length = (ji97).toNat from (by rw [List.length_take];have h_ : ((ji97) : Int) ≤ ((b_l l1 x66_2).length : Int):=of_decide_eq_true (by first|(with_reducible assumption)|assumption);omega)];repeat (first|exact (Kd.a_O e_d.out HB.out)|(with_reducible refine Kd.a_Q ?_ _)|(with_reducible refine Kd.a_R ?_ _)|(with_reducible refine Kd.a_0 ?_)))|(repeat (first|exact (Kd.a_O e_d.out HB.out)|(with_reducible refine Kd.a_Q ?_ _)|(with_reducible refine Kd.a_R ?_ _)|(with_reducible refine Kd.a_0 ?_))));(case aB => exact (lup_ HB.out));(case aF => exact (fun _ _ => trivial));(case aO => exact (rup_ e_5.out));(case aS => exact (a_j (lup_ HB.out)));(case aL => have:=LMc100.out;have hlx_:=(show ((b_l l1 x66_2).take ((ji97) : Int).toNat).length = (ji97).toNat from (by rw [List.length_take];have h_ : ((ji97) : Int) ≤ ((b_l l1 x66_2).length : Int):=of_decide_eq_true (by first|(with_reducible assumption)|assumption);omega));omega);intro v414 w150 ho hb hg hat;rw [← Ny413.out] at ho;have b_c:=a_a.mk (ho);replace HB:=a_a.mk (hb);clear e_5 ho hb hg hat;obtain ⟨i_X,i_Y,j_2⟩:=Kd.a_P b_c.out;subst j_2)|((with_reducible refine a_B (f:=27) rfl ?_);refine a_X (some 82) rfl rfl Try.func27 (by kernel_rfl) rfl #[.slice i_X y413.length i_Y] rfl (by (try simp only [List.map_toArray,List.map_cons,List.map_nil]);first|done|rfl|(simp only [List.length_drop,List.length_take];rfl)) ?_;(with_reducible refine (a_C.calls k2 _ _ y413 t416 t419 _ ?side1 ?side2 A101.out).mono ?_);(case side1 => repeat (first|exact (Kd.a_A b_c.out).2.2|(with_reducible refine Kd.a_Q ?_ _)|(with_reducible refine Kd.a_R ?_ _)|(with_reducible refine Kd.a_0 ?_)));(case side2 => exact (Kd.a_A b_c.out).2.1);rintro e w152 ⟨v417,rfl,ho0,hb⟩;refine ⟨_,rfl,?_⟩;have b_u:=a_a.mk (Kd.a_S ho0 (a_j (lup_ HB.out)));replace b_c:=a_a.mk (Kd.a_F (rup_ b_c.out) hb);replace HB:=a_a.mk (a_i (lup_ HB.out) hb);(try clear hb);(try clear hb2);(try clear hk);(try clear hi);(try clear ho0))|((with_reducible refine a_w (N:=14) rfl ?_);(try (refine a_H (by rfl) ?_;dsimp only));refine a_v ?hg (N:=14) ?hd (cs:=#[.slice none 0 0]) (t:=26) ?hr ?_;(case hd => rfl);(case hg => rfl);(case hr => first|(go_simp;done)|(go_simp;rfl));intro b_L hg w153 hbox hb;have b_h:=a_a.mk (hbox);have i_Z:=a_a.mk ((by rw [hg];exact (a_j (lup_ HB.out)) : w.heap.size ≤ b_L));have b_S:=a_a.mk ((by rw [hg];exact (a_j (lup_ HB.out)) : w.heap.size ≤ b_L));replace b_c:=a_a.mk (Kd.a_F (rup_ b_c.out) hb);replace b_u:=a_a.mk (Kd.a_F (rup_ b_u.out) hb);replace HB:=a_a.mk (a_i (lup_ HB.out) hb);clear hb hbox hg;obtain ⟨h_j,h_k,j_3⟩:=Kd.a_P b_u.out;subst j_3;have i_5 : w153.cell? ⟨b_L,0,none⟩ = some (.slice none 0 0):=(a_m b_h.out 0).trans rfl;have i_6:=a_k b_h.out 0)|((with_reducible refine a_w (N:=86) rfl ?_);(try (refine a_H (by rfl) ?_;dsimp only));refine Kd.c_T (Kd.int .u8) _ 5 ?hg (N:=86) ?hd (xs:=([] : List Int)) (inner:=[]) (ok:=fun _ => True) (okp:=fun _ => True) ?hr ?hp (fun _ hk => hk) trivial (Below.refl _ _) (Nat.le_refl _) (by simp) ?_;(case hd => rfl);(case hg => rfl);(case hr => first|(go_simp;done)|(go_simp;rfl));(case hp => exact (Reps.none _ _));intro v422 w156 ho157 hb hg_ hnew_;clear hg_ hnew_;(first|rw [← Ny421.out] at ho157|(simp only [Int.reduceToNat] at ho157;rw [← Ny421.out] at ho157));have d_x:=a_a.mk (Kd.a_S (Kd.c_v ho157 (Kd.R_lt (by (with_reducible repeat (first|apply Kd.a_J|apply Kd.a_I|apply Kd.a_M));exact (Kd.a_U (Kd.b_i (p:=⟨b_L,0,none⟩) (Kd.a_N b_c.out b_h.out (by decide)) (fun _ hk => hk.2) (.slice h_j t416.length h_k)) (fun _ h_ => h_.1))))) (a_j (by repeat (first|(with_reducible first|exact HB.out|apply a_d|apply a_b|apply a_e|refine a_c ?_ b_S.out)|exact HB.out))));replace b_c:=a_a.mk (Kd.b_I (by (with_reducible repeat (first|apply Kd.a_J|apply Kd.a_I|apply Kd.a_M));exact (Kd.a_U (Kd.b_i (p:=⟨b_L,0,none⟩) (Kd.a_N b_c.out b_h.out (by decide)) (fun _ hk => hk.2) (.slice h_j t416.length h_k)) (fun _ h_ => h_.1))) (Kd.c_g ho157) hb);replace b_u:=a_a.mk (Kd.a_F (by (with_reducible repeat (first|apply Kd.a_J|apply Kd.a_I|apply Kd.a_M));exact (Kd.a_U (Kd.b_i (p:=⟨b_L,0,none⟩) (Kd.a_N b_u.out b_h.out (by decide)) (fun _ hk => hk.2) (.slice h_j t416.length h_k)) (fun _ h_ => h_.1))) hb);replace b_h:=a_a.mk (a_f (g:=b_L) (o:=.cells #[.slice h_j t416.length h_k] 26 (0,0)) (by (with_reducible repeat (first|refine a_n ?_ _|refine a_q ?_|refine a_s ?_ _));refine a_L (cs:=#[.slice none 0 0]) ?_ 0 _ rfl;(with_reducible repeat (first|refine a_n ?_ _|refine a_q ?_|refine a_s ?_ _));exact b_h.out) hb);replace HB:=a_a.mk (a_i (by repeat (first|(with_reducible first|exact HB.out|apply a_d|apply a_b|apply a_e|refine a_c ?_ b_S.out)|exact HB.out)) hb);clear hb ho157)|((with_reducible refine b_a (b:=.append) (xs:=#[.tmp 86,.tmp 87]) rfl ?_);(try (refine a_H (by rfl) ?_;dsimp only));at_builtin;refine Kd.b_w (Kd.int .u8) (w0:=w) w.heap.size rfl (.tmp 86) (.tmp 87) 51 5 (.int .u8 0) 1 rfl Try.underlying51 info5 rfl (by decide) (by omega) v422 y421 y413 _ _ _ (fun k_ => some k_ ≠ (.slice i_X y413.length i_Y : Value).ownBlock) (fun _ => False) rfl rfl ?aO ?aR (fun _ _ h => h) (fun _ h => h.elim) ?aF ?aB ?aS ?aL ?_;(case aR => repeat (first|exact (Kd.a_A b_c.out).2.2|(with_reducible refine Kd.a_Q ?_ _)|(with_reducible refine Kd.a_R ?_ _)|(with_reducible refine Kd.a_0 ?_)));(case aB => exact (by repeat (first|(with_reducible first|exact HB.out|apply a_d|apply a_b|apply a_e|refine a_c ?_ b_S.out)|exact HB.out)));(case aF => exact (fun k_ hk => Kd.fresh' (Kd.R_lt (rup_ b_c.out)) k_ hk));(case aO => exact (by (with_reducible repeat (first|apply Kd.a_J|apply Kd.a_I|apply Kd.a_M));exact Kd.a_U d_x.out (fun _ hk => hk.2)));(case aS => exact (a_j (by repeat (first|(with_reducible first|exact HB.out|apply a_d|apply a_b|apply a_e|refine a_c ?_ b_S.out)|exact HB.out))));(case aL => have:=LMc102.out;omega);intro v425 w158 ho hb hg hat;rw [← Ny424.out] at ho;have b_9:=a_a.mk (ho);replace b_c:=a_a.mk (Kd.f_d (ok:=(fun _ => True)) (rup_ b_c.out) hg hat);replace b_u:=a_a.mk (Kd.f_i (rup_ b_u.out) (Kd.f_c (rup_ d_x.out)) (by decide) hg);replace b_h:=a_a.mk (b_q (g:=b_L) (o:=.cells #[.slice h_j t416.length h_k] 26 (0,0)) (bup_ b_h.out) hg (Kd.R_ne d_x.out b_h.out (by decide)));replace HB:=a_a.mk (hb);clear d_x ho hb hg hat;obtain ⟨j_4,j_5,j_6⟩:=Kd.a_P b_9.out;subst j_6)|((with_reducible refine a_B (f:=28) rfl ?_);refine a_X (some 89) rfl rfl Try.func28 (by kernel_rfl) rfl #[.slice j_4 y424.length j_5] rfl (by (try simp only [List.map_toArray,List.map_cons,List.map_nil]);first|done|rfl|(simp only [List.length_drop,List.length_take];rfl)) ?_;(with_reducible refine (a_l.calls k2 _ _ y424 t427 t430 _ ?side1 ?side2 A103.out).mono ?_);(case side1 => repeat (first|exact (Kd.a_A b_9.out).2.2|(with_reducible refine Kd.a_Q ?_ _)|(with_reducible refine Kd.a_R ?_ _)|(with_reducible refine Kd.a_0 ?_)));(case side2 => exact (Kd.a_A b_9.out).2.1);rintro e w160 ⟨v428,rfl,ho0,hb⟩;refine ⟨_,rfl,?_⟩;have c_M:=a_a.mk (Kd.a_S (Kd.c_v ho0 (Kd.R_lt (rup_ b_u.out))) (a_j (by repeat (first|(with_reducible first|exact HB.out|apply a_d|apply a_b|apply a_e|refine a_c ?_ b_S.out)|exact HB.out))));replace b_c:=a_a.mk (Kd.a_F (rup_ b_c.out) hb);replace b_u:=a_a.mk (Kd.b_I (rup_ b_u.out) (Kd.c_g ho0) hb);replace b_9:=a_a.mk (Kd.a_F (rup_ b_9.out) hb);replace b_h:=a_a.mk (a_f (bup_ b_h.out) hb);replace HB:=a_a.mk (a_i (by repeat (first|(with_reducible first|exact HB.out|apply a_d|apply a_b|apply a_e|refine a_c ?_ b_S.out)|exact HB.out)) hb);(try clear hb);(try clear hb2);(try clear hk);(try clear hi);(try clear ho0))|((with_reducible refine a_w (N:=16) rfl ?_);(try (refine a_H (by rfl) ?_;dsimp only));refine a_v ?hg (N:=16) ?hd (cs:=#[.slice none 0 0]) (t:=26) ?hr ?_;(case hd => rfl);(case hg => rfl);(case hr => first|(go_simp;done)|(go_simp;rfl));intro b_Z hg w161 hbox hb;have c_j:=a_a.mk (hbox);have i_0:=a_a.mk ((by rw [hg];exact (a_j (by repeat (first|(with_reducible first|exact HB.out|apply a_d|apply a_b|apply a_e|refine a_c ?_ b_S.out)|exact HB.out))) : w.heap.size ≤ b_Z));have f_H:=a_a.mk ((by rw [hg];exact (a_j (by repeat (first|(with_reducible first|exact HB.out|apply a_d|apply a_b|apply a_e|refine a_c ?_ b_S.out)|exact HB.out))) : w.heap.size ≤ b_Z));have c_r:=a_a.mk ((by rw [hg];exact Nat.ne_of_lt (a_o (bup_ b_h.out)) : b_L ≠ b_Z));have c_2:=a_a.mk ((by rw [hg];exact Nat.ne_of_gt (a_o (bup_ b_h.out)) : b_Z ≠ b_L));replace b_c:=a_a.mk (Kd.a_F (rup_ b_c.out) hb);replace b_u:=a_a.mk (Kd.a_F (rup_ b_u.out) hb);replace b_9:=a_a.mk (Kd.a_F (rup_ b_9.out) hb);replace c_M:=a_a.mk (Kd.a_F (rup_ c_M.out) hb);replace b_h:=a_a.mk (a_f (bup_ b_h.out) hb);replace HB:=a_a.mk (a_i (by repeat (first|(with_reducible first|exact HB.out|apply a_d|apply a_b|apply a_e|refine a_c ?_ b_S.out)|exact HB.out)) hb);clear hb hbox hg;obtain ⟨l_j,l_k,j_7⟩:=Kd.a_P c_M.out;subst j_7;have k_n:=c_2.out;have k_o:=c_r.out;have i_7 : w161.cell? ⟨b_Z,0,none⟩ = some (.slice none 0 0):=(a_m c_j.out 0).trans rfl;have i_8:=a_k c_j.out 0))
      go_ret
      exact ⟨by first|rfl|(simp [a_z,a_y] <;> rfl)|(simp only [← hji97];first|rfl|(simp [a_z,a_y] <;> rfl))|(simp [*, a_z,a_y] <;> rfl),by repeat (first|(with_reducible first|exact HB.out|apply a_d|apply a_b|apply a_e|refine a_c ?_ b_S.out|refine a_c ?_ f_H.out)|exact HB.out)⟩
     rw [if_pos c104] at H
     have c104b0 : (t419 == t430) = true:=beq_iff_eq.mpr c104
     have c104b1 : (t419 != t430) = false:=bne_eq_false_iff_eq.mpr c104
     clear c104
     replace H:=Option.bind_eq_some_iff.mp H
     obtain ⟨t432,A1050,H⟩:=H
     replace H : (if t432 = true then (a_g.l1 k2 l1 (l1.length : Int) (wrap64 (x66_2 + 1))) else (some false)) = some r:=H
     have A105:=a_a.mk A1050
     clear A1050
     by_cases c106 : t432 = true
     ·subst c106
      have H1 : (a_g.l1 k2 l1 (l1.length : Int) (wrap64 (x66_2 + 1))) = some r:=by rw [if_pos rfl] at H;exact H
      clear H
      have H:=H1
      clear H1
      have H':=a_a.mk H
      clear H
      have p408 : 0 ≤ (x66_2 : Int):=of_decide_eq_true (by first|(with_reducible assumption)|assumption)
      have q408 : x66_2 < (l1.length : Int):=of_decide_eq_true (by first|(with_reducible assumption)|assumption)
      obtain ⟨ad408,A408_0,c408_0,e408,b_Y,c_p,c_q⟩:=h_F HR1.out x66_2 p408 q408
      cases e408
      replace b_Y:=(HB.out.cell (World.block_lt_of_cell? w _ b_Y)).trans b_Y
      have d_B:=a_a.mk c_q
      have d_C:=a_a.mk c_p
      clear c_q c_p
      replace p408:=eq_true p408
      replace q408:=eq_true q408
      go_wp2_with (first|((with_reducible refine a_w (N:=73) rfl ?_);(try (refine a_H (by rfl) ?_;dsimp only));refine Kd.c_T (Kd.int .u8) _ 5 ?hg (N:=73) ?hd (xs:=([] : List Int)) (inner:=[]) (ok:=fun _ => True) (okp:=fun _ => True) ?hr ?hp (fun _ hk => hk) trivial (Below.refl _ _) (Nat.le_refl _) (by simp) ?_;(case hd => rfl);(case hg => rfl);(case hr => first|(go_simp;done)|(go_simp;rfl));(case hp => exact (Reps.none _ _));intro v410 w107 ho108 hb hg_ hnew_;clear hg_ hnew_;(first|rw [← Ny409.out] at ho108|(simp only [Int.reduceToNat] at ho108;rw [← Ny409.out] at ho108));have e_5:=a_a.mk (Kd.a_S ho108 (a_j (lup_ HB.out)));replace HB:=a_a.mk (a_i (lup_ HB.out) hb);clear hb ho108;obtain ⟨i0109,h_O,_,hsz109,_⟩:=info_parts info5;obtain ⟨hcut109,hA109,hC109⟩:=c_h (P:=Try.prog) (Value.int .u8) 0 51 5 .i64 Try.underlying51 h_O hsz109 A408_0 c408_0 (b_l l1 x66_2) (ji97) (of_decide_eq_true (by first|(with_reducible assumption)|assumption)) (of_decide_eq_true (by first|(with_reducible assumption)|assumption)) d_C.out;have e_d:=a_a.mk (Kd.c_k (h1:=fun _ => rfl) (hA109 _ (Kd.b_0 d_B.out)));have i_W:=a_a.mk hC109;clear hA109 hC109 h_O hsz109)|((with_reducible refine b_a (b:=.append) (xs:=#[.tmp 73,.tmp 78]) rfl ?_);(try (refine a_H (by rfl) ?_;dsimp only));at_builtin;refine Kd.b_w (Kd.int .u8) (w0:=w) w.heap.size rfl (.tmp 73) (.tmp 78) 51 5 (.int .u8 0) 1 rfl Try.underlying51 info5 rfl (by decide) (by omega) v410 y409 ((b_l l1 x66_2).take ((ji97) : Int).toNat) _ _ _ (fun _ => True) (fun _ => False) rfl rfl ?aO ?aR (fun _ _ h => h) (fun _ h => h.elim) ?aF ?aB ?aS ?aL ?_;(case aR => first|(refine g_h (show ((b_l l1 x66_2).take ((ji97) : Int).toNat).length = (ji97).toNat from (by rw [List.length_take];have h_ : ((ji97) : Int) ≤ ((b_l l1 x66_2).length : Int):=of_decide_eq_true (by first|(with_reducible assumption)|assumption);omega)) ?_;repeat (first|exact (Kd.a_O e_d.out HB.out)|(with_reducible refine Kd.a_Q ?_ _)|(with_reducible refine Kd.a_R ?_ _)|(with_reducible refine Kd.a_0 ?_)))|(rw [← show ((b_l l1 x66_2).take ((ji97) : Int).toNat).length = (ji97).toNat from (by rw [List.length_take];have h_ : ((ji97) : Int) ≤ ((b_l l1 x66_2).length : Int):=of_decide_eq_true (by first|(with_reducible assumption)|assumption);omega)];repeat (first|exact (Kd.a_O e_d.out HB.out)|(with_reducible refine Kd.a_Q ?_ _)|(with_reducible refine Kd.a_R ?_ _)|(with_reducible refine Kd.a_0 ?_)))|(repeat (first|exact (Kd.a_O e_d.out HB.out)|(with_reducible refine Kd.a_Q ?_ _)|(with_reducible refine Kd.a_R ?_ _)|(with_reducible refine Kd.a_0 ?_))));(case aB => exact (lup_ HB.out));(case aF => exact (fun _ _ => trivial));(case aO => exact (rup_ e_5.out));(case aS => exact (a_j (lup_ HB.out)));(case aL => have:=LMc100.out;have hlx_:=(show ((b_l l1 x66_2).take ((ji97) : Int).toNat).length = (ji97).toNat from (by rw [List.length_take];have h_ : ((ji97) : Int) ≤ ((b_l l1 x66_2).length : Int):=of_decide_eq_true (by first|(with_reducible assumption)|assumption);omega));omega);intro v414 w110 ho hb hg hat;rw [← Ny413.out] at ho;have b_c:=a_a.mk (ho);replace HB:=a_a.mk (hb);clear e_5 ho hb hg hat;obtain ⟨i_1,i_2,j_8⟩:=Kd.a_P b_c.out;subst j_8)|((with_reducible refine a_B (f:=27) rfl ?_);refine a_X (some 82) rfl rfl Try.func27 (by kernel_rfl) rfl #[.slice i_1 y413.length i_2] rfl (by (try simp only [List.map_toArray,List.map_cons,List.map_nil]);first|done|rfl|(simp only [List.length_drop,List.length_take];rfl)) ?_;(with_reducible refine (a_C.calls k2 _ _ y413 t416 t419 _ ?side1 ?side2 A101.out).mono ?_);(case side1 => repeat (first|exact (Kd.a_A b_c.out).2.2|(with_reducible refine Kd.a_Q ?_ _)|(with_reducible refine Kd.a_R ?_ _)|(with_reducible refine Kd.a_0 ?_)));(case side2 => exact (Kd.a_A b_c.out).2.1);rintro e w112 ⟨v417,rfl,ho0,hb⟩;refine ⟨_,rfl,?_⟩;have b_u:=a_a.mk (Kd.a_S ho0 (a_j (lup_ HB.out)));replace b_c:=a_a.mk (Kd.a_F (rup_ b_c.out) hb);replace HB:=a_a.mk (a_i (lup_ HB.out) hb);(try clear hb);(try clear hb2);(try clear hk);(try clear hi);(try clear ho0))|((with_reducible refine a_w (N:=14) rfl ?_);(try (refine a_H (by rfl) ?_;dsimp only));refine a_v ?hg (N:=14) ?hd (cs:=#[.slice none 0 0]) (t:=26) ?hr ?_;(case hd => rfl);(case hg => rfl);(case hr => first|(go_simp;done)|(go_simp;rfl));intro b_L hg w113 hbox hb;have b_h:=a_a.mk (hbox);have i_Z:=a_a.mk ((by rw [hg];exact (a_j (lup_ HB.out)) : w.heap.size ≤ b_L));have b_S:=a_a.mk ((by rw [hg];exact (a_j (lup_ HB.out)) : w.heap.size ≤ b_L));replace b_c:=a_a.mk (Kd.a_F (rup_ b_c.out) hb);replace b_u:=a_a.mk (Kd.a_F (rup_ b_u.out) hb);replace HB:=a_a.mk (a_i (lup_ HB.out) hb);clear hb hbox hg;obtain ⟨e_6,e_F,j_9⟩:=Kd.a_P b_u.out;subst j_9;have i_9 : w113.cell? ⟨b_L,0,none⟩ = some (.slice none 0 0):=(a_m b_h.out 0).trans rfl;have j_a:=a_k b_h.out 0)|((with_reducible refine a_w (N:=86) rfl ?_);(try (refine a_H (by rfl) ?_;dsimp only));refine Kd.c_T (Kd.int .u8) _ 5 ?hg (N:=86) ?hd (xs:=([] : List Int)) (inner:=[]) (ok:=fun _ => True) (okp:=fun _ => True) ?hr ?hp (fun _ hk => hk) trivial (Below.refl _ _) (Nat.le_refl _) (by simp) ?_;(case hd => rfl);(case hg => rfl);(case hr => first|(go_simp;done)|(go_simp;rfl));(case hp => exact (Reps.none _ _));intro v422 w116 ho117 hb hg_ hnew_;clear hg_ hnew_;(first|rw [← Ny421.out] at ho117|(simp only [Int.reduceToNat] at ho117;rw [← Ny421.out] at ho117));have d_x:=a_a.mk (Kd.a_S (Kd.c_v ho117 (Kd.R_lt (by (with_reducible repeat (first|apply Kd.a_J|apply Kd.a_I|apply Kd.a_M));exact (Kd.a_U (Kd.b_i (p:=⟨b_L,0,none⟩) (Kd.a_N b_c.out b_h.out (by decide)) (fun _ hk => hk.2) (.slice e_6 t416.length e_F)) (fun _ h_ => h_.1))))) (a_j (by repeat (first|(with_reducible first|exact HB.out|apply a_d|apply a_b|apply a_e|refine a_c ?_ b_S.out)|exact HB.out))));replace b_c:=a_a.mk (Kd.b_I (by (with_reducible repeat (first|apply Kd.a_J|apply Kd.a_I|apply Kd.a_M));exact (Kd.a_U (Kd.b_i (p:=⟨b_L,0,none⟩) (Kd.a_N b_c.out b_h.out (by decide)) (fun _ hk => hk.2) (.slice e_6 t416.length e_F)) (fun _ h_ => h_.1))) (Kd.c_g ho117) hb);replace b_u:=a_a.mk (Kd.a_F (by (with_reducible repeat (first|apply Kd.a_J|apply Kd.a_I|apply Kd.a_M));exact (Kd.a_U (Kd.b_i (p:=⟨b_L,0,none⟩) (Kd.a_N b_u.out b_h.out (by decide)) (fun _ hk => hk.2) (.slice e_6 t416.length e_F)) (fun _ h_ => h_.1))) hb);replace b_h:=a_a.mk (a_f (g:=b_L) (o:=.cells #[.slice e_6 t416.length e_F] 26 (0,0)) (by (with_reducible repeat (first|refine a_n ?_ _|refine a_q ?_|refine a_s ?_ _));refine a_L (cs:=#[.slice none 0 0]) ?_ 0 _ rfl;(with_reducible repeat (first|refine a_n ?_ _|refine a_q ?_|refine a_s ?_ _));exact b_h.out) hb);replace HB:=a_a.mk (a_i (by repeat (first|(with_reducible first|exact HB.out|apply a_d|apply a_b|apply a_e|refine a_c ?_ b_S.out)|exact HB.out)) hb);clear hb ho117)|((with_reducible refine b_a (b:=.append) (xs:=#[.tmp 86,.tmp 87]) rfl ?_);(try (refine a_H (by rfl) ?_;dsimp only));at_builtin;refine Kd.b_w (Kd.int .u8) (w0:=w) w.heap.size rfl (.tmp 86) (.tmp 87) 51 5 (.int .u8 0) 1 rfl Try.underlying51 info5 rfl (by decide) (by omega) v422 y421 y413 _ _ _ (fun k_ => some k_ ≠ (.slice i_1 y413.length i_2 : Value).ownBlock) (fun _ => False) rfl rfl ?aO ?aR (fun _ _ h => h) (fun _ h => h.elim) ?aF ?aB ?aS ?aL ?_;(case aR => repeat (first|exact (Kd.a_A b_c.out).2.2|(with_reducible refine Kd.a_Q ?_ _)|(with_reducible refine Kd.a_R ?_ _)|(with_reducible refine Kd.a_0 ?_)));(case aB => exact (by repeat (first|(with_reducible first|exact HB.out|apply a_d|apply a_b|apply a_e|refine a_c ?_ b_S.out)|exact HB.out)));(case aF => exact (fun k_ hk => Kd.fresh' (Kd.R_lt (rup_ b_c.out)) k_ hk));(case aO => exact (by (with_reducible repeat (first|apply Kd.a_J|apply Kd.a_I|apply Kd.a_M));exact Kd.a_U d_x.out (fun _ hk => hk.2)));(case aS => exact (a_j (by repeat (first|(with_reducible first|exact HB.out|apply a_d|apply a_b|apply a_e|refine a_c ?_ b_S.out)|exact HB.out))));(case aL => have:=LMc102.out;omega);intro v425 w118 ho hb hg hat;rw [← Ny424.out] at ho;have b_9:=a_a.mk (ho);replace b_c:=a_a.mk (Kd.f_d (ok:=(fun _ => True)) (rup_ b_c.out) hg hat);replace b_u:=a_a.mk (Kd.f_i (rup_ b_u.out) (Kd.f_c (rup_ d_x.out)) (by decide) hg);replace b_h:=a_a.mk (b_q (g:=b_L) (o:=.cells #[.slice e_6 t416.length e_F] 26 (0,0)) (bup_ b_h.out) hg (Kd.R_ne d_x.out b_h.out (by decide)));replace HB:=a_a.mk (hb);clear d_x ho hb hg hat;obtain ⟨k_a,k_b,k_d⟩:=Kd.a_P b_9.out;subst k_d)|((with_reducible refine a_B (f:=28) rfl ?_);refine a_X (some 89) rfl rfl Try.func28 (by kernel_rfl) rfl #[.slice k_a y424.length k_b] rfl (by (try simp only [List.map_toArray,List.map_cons,List.map_nil]);first|done|rfl|(simp only [List.length_drop,List.length_take];rfl)) ?_;(with_reducible refine (a_l.calls k2 _ _ y424 t427 t430 _ ?side1 ?side2 A103.out).mono ?_);(case side1 => repeat (first|exact (Kd.a_A b_9.out).2.2|(with_reducible refine Kd.a_Q ?_ _)|(with_reducible refine Kd.a_R ?_ _)|(with_reducible refine Kd.a_0 ?_)));(case side2 => exact (Kd.a_A b_9.out).2.1);rintro e w120 ⟨v428,rfl,ho0,hb⟩;refine ⟨_,rfl,?_⟩;have c_M:=a_a.mk (Kd.a_S (Kd.c_v ho0 (Kd.R_lt (rup_ b_u.out))) (a_j (by repeat (first|(with_reducible first|exact HB.out|apply a_d|apply a_b|apply a_e|refine a_c ?_ b_S.out)|exact HB.out))));replace b_c:=a_a.mk (Kd.a_F (rup_ b_c.out) hb);replace b_u:=a_a.mk (Kd.b_I (rup_ b_u.out) (Kd.c_g ho0) hb);replace b_9:=a_a.mk (Kd.a_F (rup_ b_9.out) hb);replace b_h:=a_a.mk (a_f (bup_ b_h.out) hb);replace HB:=a_a.mk (a_i (by repeat (first|(with_reducible first|exact HB.out|apply a_d|apply a_b|apply a_e|refine a_c ?_ b_S.out)|exact HB.out)) hb);(try clear hb);(try clear hb2);(try clear hk);(try clear hi);(try clear ho0))|((with_reducible refine a_w (N:=16) rfl ?_);(try (refine a_H (by rfl) ?_;dsimp only));refine a_v ?hg (N:=16) ?hd (cs:=#[.slice none 0 0]) (t:=26) ?hr ?_;(case hd => rfl);(case hg => rfl);(case hr => first|(go_simp;done)|(go_simp;rfl));intro b_Z hg w121 hbox hb;have c_j:=a_a.mk (hbox);have i_0:=a_a.mk ((by rw [hg];exact (a_j (by repeat (first|(with_reducible first|exact HB.out|apply a_d|apply a_b|apply a_e|refine a_c ?_ b_S.out)|exact HB.out))) : w.heap.size ≤ b_Z));have f_H:=a_a.mk ((by rw [hg];exact (a_j (by repeat (first|(with_reducible first|exact HB.out|apply a_d|apply a_b|apply a_e|refine a_c ?_ b_S.out)|exact HB.out))) : w.heap.size ≤ b_Z));have c_r:=a_a.mk ((by rw [hg];exact Nat.ne_of_lt (a_o (bup_ b_h.out)) : b_L ≠ b_Z));have c_2:=a_a.mk ((by rw [hg];exact Nat.ne_of_gt (a_o (bup_ b_h.out)) : b_Z ≠ b_L));replace b_c:=a_a.mk (Kd.a_F (rup_ b_c.out) hb);replace b_u:=a_a.mk (Kd.a_F (rup_ b_u.out) hb);replace b_9:=a_a.mk (Kd.a_F (rup_ b_9.out) hb);replace c_M:=a_a.mk (Kd.a_F (rup_ c_M.out) hb);replace b_h:=a_a.mk (a_f (bup_ b_h.out) hb);replace HB:=a_a.mk (a_i (by repeat (first|(with_reducible first|exact HB.out|apply a_d|apply a_b|apply a_e|refine a_c ?_ b_S.out)|exact HB.out)) hb);clear hb hbox hg;obtain ⟨e_7,e_G,k_e⟩:=Kd.a_P c_M.out;subst k_e;have k_p:=c_2.out;have k_q:=c_r.out;have j_b : w121.cell? ⟨b_Z,0,none⟩ = some (.slice none 0 0):=(a_m c_j.out 0).trans rfl;have j_c:=a_k c_j.out 0;have j_d : w121.cell? ⟨b_L,0,none⟩ = some (.slice e_6 t416.length e_F):=(a_m b_h.out 0).trans rfl;have j_e:=a_k b_h.out 0)|(go_at_call 14;(with_reducible refine (a_r.calls k2 _ _ t416 _ _ t427 true _ ?side1 ?side2 ?side3 ?side4 A105.out).mono ?_);(case side1 => refine (Kd.a_A (e:=31) (base:=w.heap.size) (ok:=fun k_ => (True ∧ some k_ ≠ (.slice e_7 t427.length e_G : Value).ownBlock)) (n:=t416.length) (c:=e_F) ?_).2.2;exact (by (with_reducible repeat (first|apply Kd.a_J|apply Kd.a_I|apply Kd.a_M));exact (Kd.a_U (Kd.b_i (p:=⟨b_Z,0,none⟩) (Kd.a_N b_u.out c_j.out (by decide)) (fun _ hk => hk.2) (.slice e_7 t427.length e_G)) (fun _ h_ => h_.1))));(case side2 => exact (Kd.a_A b_u.out).2.1);(case side3 => refine (Kd.a_A (e:=31) (base:=w.heap.size) (ok:=fun k_ => (True ∧ some k_ ≠ (.slice e_6 t416.length e_F : Value).ownBlock)) (n:=t427.length) (c:=e_G) ?_).2.2;exact (by (with_reducible repeat (first|apply Kd.a_J|apply Kd.a_I|apply Kd.a_M));exact (Kd.a_U (Kd.b_i (p:=⟨b_Z,0,none⟩) (Kd.a_N c_M.out c_j.out (by decide)) (fun _ hk => hk.2) (.slice e_7 t427.length e_G)) (fun _ h_ => h_.1))));(case side4 => exact (Kd.a_A c_M.out).2.1);rintro e w126 ⟨rfl,hb⟩;replace b_c:=a_a.mk (Kd.a_F (by (with_reducible repeat (first|apply Kd.a_J|apply Kd.a_I|apply Kd.a_M));exact (Kd.a_U (Kd.b_i (p:=⟨b_Z,0,none⟩) (Kd.a_N b_c.out c_j.out (by decide)) (fun _ hk => hk.2) (.slice e_7 t427.length e_G)) (fun _ h_ => h_.1))) hb);replace b_u:=a_a.mk (Kd.a_F (by (with_reducible repeat (first|apply Kd.a_J|apply Kd.a_I|apply Kd.a_M));exact (Kd.a_U (Kd.b_i (p:=⟨b_Z,0,none⟩) (Kd.a_N b_u.out c_j.out (by decide)) (fun _ hk => hk.2) (.slice e_7 t427.length e_G)) (fun _ h_ => h_.1))) hb);replace b_9:=a_a.mk (Kd.a_F (by (with_reducible repeat (first|apply Kd.a_J|apply Kd.a_I|apply Kd.a_M));exact (Kd.a_U (Kd.b_i (p:=⟨b_Z,0,none⟩) (Kd.a_N b_9.out c_j.out (by decide)) (fun _ hk => hk.2) (.slice e_7 t427.length e_G)) (fun _ h_ => h_.1))) hb);replace c_M:=a_a.mk (Kd.a_F (by (with_reducible repeat (first|apply Kd.a_J|apply Kd.a_I|apply Kd.a_M));exact (Kd.a_U (Kd.b_i (p:=⟨b_Z,0,none⟩) (Kd.a_N c_M.out c_j.out (by decide)) (fun _ hk => hk.2) (.slice e_7 t427.length e_G)) (fun _ h_ => h_.1))) hb);replace b_h:=a_a.mk (a_f (g:=b_L) (o:=.cells #[.slice e_6 t416.length e_F] 26 (0,0)) (by (with_reducible repeat (first|refine a_n ?_ _|refine a_q ?_|refine a_s ?_ _));refine a_G ?_ c_r.out _;(with_reducible repeat (first|refine a_n ?_ _|refine a_q ?_|refine a_s ?_ _));exact b_h.out) hb);replace c_j:=a_a.mk (a_f (g:=b_Z) (o:=.cells #[.slice e_7 t427.length e_G] 26 (0,0)) (by (with_reducible repeat (first|refine a_n ?_ _|refine a_q ?_|refine a_s ?_ _));refine a_L (cs:=#[.slice none 0 0]) ?_ 0 _ rfl;(with_reducible repeat (first|refine a_n ?_ _|refine a_q ?_|refine a_s ?_ _));exact c_j.out) hb);replace HB:=a_a.mk (a_i (by repeat (first|(with_reducible first|exact HB.out|apply a_d|apply a_b|apply a_e|refine a_c ?_ b_S.out|refine a_c ?_ f_H.out)|exact HB.out)) hb);(try clear hb);(try clear hb2);(try clear hk);(try clear hi)))
      go_roundg k2
      case measure => have:=HJ4.out;have:=HK2.out;omega
      case rel => exact ⟨(wrap64 (x66_2 + 1)),(by first|rfl|(simp;done)|(simp [*];done)),H',⟨by have:=HJ4.out;have:=HK2.out;omega⟩,⟨by repeat (first|(with_reducible first|exact HB.out|apply a_d|apply a_b|apply a_e|refine a_c ?_ b_S.out|refine a_c ?_ f_H.out)|exact HB.out)⟩⟩
     replace c106:=Bool.eq_false_iff.mpr c106
     subst c106
     have H1 : (some false) = some r:=by rw [if_neg (show ¬ (false = true) by decide)] at H;exact H
     clear H
     have H:=H1
     clear H1
     obtain rfl:=Option.some.inj H
     have p408 : 0 ≤ (x66_2 : Int):=of_decide_eq_true (by first|(with_reducible assumption)|assumption)
     have q408 : x66_2 < (l1.length : Int):=of_decide_eq_true (by first|(with_reducible assumption)|assumption)
     obtain ⟨ad408,A408_0,c408_0,e408,b_Y,c_p,c_q⟩:=h_F HR1.out x66_2 p408 q408
     cases e408
     replace b_Y:=(HB.out.cell (World.block_lt_of_cell? w _ b_Y)).trans b_Y
     have d_B:=a_a.mk c_q
     have d_C:=a_a.mk c_p
     clear c_q c_p
     replace p408:=eq_true p408
     replace q408:=eq_true q408
     go_wp2_with (first|((with_reducible refine a_w (N:=73) rfl ?_);(try (refine a_H (by rfl) ?_;dsimp only));refine Kd.c_T (Kd.int .u8) _ 5 ?hg (N:=73) ?hd (xs:=([] : List Int)) (inner:=[]) (ok:=fun _ => True) (okp:=fun _ => True) ?hr ?hp (fun _ hk => hk) trivial (Below.refl _ _) (Nat.le_refl _) (by simp) ?_;(case hd => rfl);(case hg => rfl);(case hr => first|(go_simp;done)|(go_simp;rfl));(case hp => exact (Reps.none _ _));intro v410 w127 ho128 hb hg_ hnew_;clear hg_ hnew_;(first|rw [← Ny409.out] at ho128|(simp only [Int.reduceToNat] at ho128;rw [← Ny409.out] at ho128));have e_5:=a_a.mk (Kd.a_S ho128 (a_j (lup_ HB.out)));replace HB:=a_a.mk (a_i (lup_ HB.out) hb);clear hb ho128;obtain ⟨i0129,h_P,_,hsz129,_⟩:=info_parts info5;obtain ⟨hcut129,hA129,hC129⟩:=c_h (P:=Try.prog) (Value.int .u8) 0 51 5 .i64 Try.underlying51 h_P hsz129 A408_0 c408_0 (b_l l1 x66_2) (ji97) (of_decide_eq_true (by first|(with_reducible assumption)|assumption)) (of_decide_eq_true (by first|(with_reducible assumption)|assumption)) d_C.out;have e_d:=a_a.mk (Kd.c_k (h1:=fun _ => rfl) (hA129 _ (Kd.b_0 d_B.out)));have i_W:=a_a.mk hC129;clear hA129 hC129 h_P hsz129)|((with_reducible refine b_a (b:=.append) (xs:=#[.tmp 73,.tmp 78]) rfl ?_);(try (refine a_H (by rfl) ?_;dsimp only));at_builtin;refine Kd.b_w (Kd.int .u8) (w0:=w) w.heap.size rfl (.tmp 73) (.tmp 78) 51 5 (.int .u8 0) 1 rfl Try.underlying51 info5 rfl (by decide) (by omega) v410 y409 ((b_l l1 x66_2).take ((ji97) : Int).toNat) _ _ _ (fun _ => True) (fun _ => False) rfl rfl ?aO ?aR (fun _ _ h => h) (fun _ h => h.elim) ?aF ?aB ?aS ?aL ?_;(case aR => first|(refine g_h (show ((b_l l1 x66_2).take ((ji97) : Int).toNat).length = (ji97).toNat from (by rw [List.length_take];have h_ : ((ji97) : Int) ≤ ((b_l l1 x66_2).length : Int):=of_decide_eq_true (by first|(with_reducible assumption)|assumption);omega)) ?_;repeat (first|exact (Kd.a_O e_d.out HB.out)|(with_reducible refine Kd.a_Q ?_ _)|(with_reducible refine Kd.a_R ?_ _)|(with_reducible refine Kd.a_0 ?_)))|(rw [← show ((b_l l1 x66_2).take ((ji97) : Int).toNat).length = (ji97).toNat from (by rw [List.length_take];have h_ : ((ji97) : Int) ≤ ((b_l l1 x66_2).length : Int):=of_decide_eq_true (by first|(with_reducible assumption)|assumption);omega)];repeat (first|exact (Kd.a_O e_d.out HB.out)|(with_reducible refine Kd.a_Q ?_ _)|(with_reducible refine Kd.a_R ?_ _)|(with_reducible refine Kd.a_0 ?_)))|(repeat (first|exact (Kd.a_O e_d.out HB.out)|(with_reducible refine Kd.a_Q ?_ _)|(with_reducible refine Kd.a_R ?_ _)|(with_reducible refine Kd.a_0 ?_))));(case aB => exact (lup_ HB.out));(case aF => exact (fun _ _ => trivial));(case aO => exact (rup_ e_5.out));(case aS => exact (a_j (lup_ HB.out)));(case aL => have:=LMc100.out;have hlx_:=(show ((b_l l1 x66_2).take ((ji97) : Int).toNat).length = (ji97).toNat from (by rw [List.length_take];have h_ : ((ji97) : Int) ≤ ((b_l l1 x66_2).length : Int):=of_decide_eq_true (by first|(with_reducible assumption)|assumption);omega));omega);intro v414 w130 ho hb hg hat;rw [← Ny413.out] at ho;have b_c:=a_a.mk (ho);replace HB:=a_a.mk (hb);clear e_5 ho hb hg hat;obtain ⟨i_3,i_4,k_f⟩:=Kd.a_P b_c.out;subst k_f)|((with_reducible refine a_B (f:=27) rfl ?_);refine a_X (some 82) rfl rfl Try.func27 (by kernel_rfl) rfl #[.slice i_3 y413.length i_4] rfl (by (try simp only [List.map_toArray,List.map_cons,List.map_nil]);first|done|rfl|(simp only [List.length_drop,List.length_take];rfl)) ?_;(with_reducible refine (a_C.calls k2 _ _ y413 t416 t419 _ ?side1 ?side2 A101.out).mono ?_);(case side1 => repeat (first|exact (Kd.a_A b_c.out).2.2|(with_reducible refine Kd.a_Q ?_ _)|(with_reducible refine Kd.a_R ?_ _)|(with_reducible refine Kd.a_0 ?_)));(case side2 => exact (Kd.a_A b_c.out).2.1);rintro e w132 ⟨v417,rfl,ho0,hb⟩;refine ⟨_,rfl,?_⟩;have b_u:=a_a.mk (Kd.a_S ho0 (a_j (lup_ HB.out)));replace b_c:=a_a.mk (Kd.a_F (rup_ b_c.out) hb);replace HB:=a_a.mk (a_i (lup_ HB.out) hb);(try clear hb);(try clear hb2);(try clear hk);(try clear hi);(try clear ho0))|((with_reducible refine a_w (N:=14) rfl ?_);(try (refine a_H (by rfl) ?_;dsimp only));refine a_v ?hg (N:=14) ?hd (cs:=#[.slice none 0 0]) (t:=26) ?hr ?_;(case hd => rfl);(case hg => rfl);(case hr => first|(go_simp;done)|(go_simp;rfl));intro b_L hg w133 hbox hb;have b_h:=a_a.mk (hbox);have i_Z:=a_a.mk ((by rw [hg];exact (a_j (lup_ HB.out)) : w.heap.size ≤ b_L));have b_S:=a_a.mk ((by rw [hg];exact (a_j (lup_ HB.out)) : w.heap.size ≤ b_L));replace b_c:=a_a.mk (Kd.a_F (rup_ b_c.out) hb);replace b_u:=a_a.mk (Kd.a_F (rup_ b_u.out) hb);replace HB:=a_a.mk (a_i (lup_ HB.out) hb);clear hb hbox hg;obtain ⟨e_8,e_H,k_g⟩:=Kd.a_P b_u.out;subst k_g;have j_f : w133.cell? ⟨b_L,0,none⟩ = some (.slice none 0 0):=(a_m b_h.out 0).trans rfl;have j_g:=a_k b_h.out 0)|((with_reducible refine a_w (N:=86) rfl ?_);(try (refine a_H (by rfl) ?_;dsimp only));refine Kd.c_T (Kd.int .u8) _ 5 ?hg (N:=86) ?hd (xs:=([] : List Int)) (inner:=[]) (ok:=fun _ => True) (okp:=fun _ => True) ?hr ?hp (fun _ hk => hk) trivial (Below.refl _ _) (Nat.le_refl _) (by simp) ?_;(case hd => rfl);(case hg => rfl);(case hr => first|(go_simp;done)|(go_simp;rfl));(case hp => exact (Reps.none _ _));intro v422 w136 ho137 hb hg_ hnew_;clear hg_ hnew_;(first|rw [← Ny421.out] at ho137|(simp only [Int.reduceToNat] at ho137;rw [← Ny421.out] at ho137));have d_x:=a_a.mk (Kd.a_S (Kd.c_v ho137 (Kd.R_lt (by (with_reducible repeat (first|apply Kd.a_J|apply Kd.a_I|apply Kd.a_M));exact (Kd.a_U (Kd.b_i (p:=⟨b_L,0,none⟩) (Kd.a_N b_c.out b_h.out (by decide)) (fun _ hk => hk.2) (.slice e_8 t416.length e_H)) (fun _ h_ => h_.1))))) (a_j (by repeat (first|(with_reducible first|exact HB.out|apply a_d|apply a_b|apply a_e|refine a_c ?_ b_S.out)|exact HB.out))));replace b_c:=a_a.mk (Kd.b_I (by (with_reducible repeat (first|apply Kd.a_J|apply Kd.a_I|apply Kd.a_M));exact (Kd.a_U (Kd.b_i (p:=⟨b_L,0,none⟩) (Kd.a_N b_c.out b_h.out (by decide)) (fun _ hk => hk.2) (.slice e_8 t416.length e_H)) (fun _ h_ => h_.1))) (Kd.c_g ho137) hb);replace b_u:=a_a.mk (Kd.a_F (by (with_reducible repeat (first|apply Kd.a_J|apply Kd.a_I|apply Kd.a_M));exact (Kd.a_U (Kd.b_i (p:=⟨b_L,0,none⟩) (Kd.a_N b_u.out b_h.out (by decide)) (fun _ hk => hk.2) (.slice e_8 t416.length e_H)) (fun _ h_ => h_.1))) hb);replace b_h:=a_a.mk (a_f (g:=b_L) (o:=.cells #[.slice e_8 t416.length e_H] 26 (0,0)) (by (with_reducible repeat (first|refine a_n ?_ _|refine a_q ?_|refine a_s ?_ _));refine a_L (cs:=#[.slice none 0 0]) ?_ 0 _ rfl;(with_reducible repeat (first|refine a_n ?_ _|refine a_q ?_|refine a_s ?_ _));exact b_h.out) hb);replace HB:=a_a.mk (a_i (by repeat (first|(with_reducible first|exact HB.out|apply a_d|apply a_b|apply a_e|refine a_c ?_ b_S.out)|exact HB.out)) hb);clear hb ho137)|((with_reducible refine b_a (b:=.append) (xs:=#[.tmp 86,.tmp 87]) rfl ?_);(try (refine a_H (by rfl) ?_;dsimp only));at_builtin;refine Kd.b_w (Kd.int .u8) (w0:=w) w.heap.size rfl (.tmp 86) (.tmp 87) 51 5 (.int .u8 0) 1 rfl Try.underlying51 info5 rfl (by decide) (by omega) v422 y421 y413 _ _ _ (fun k_ => some k_ ≠ (.slice i_3 y413.length i_4 : Value).ownBlock) (fun _ => False) rfl rfl ?aO ?aR (fun _ _ h => h) (fun _ h => h.elim) ?aF ?aB ?aS ?aL ?_;(case aR => repeat (first|exact (Kd.a_A b_c.out).2.2|(with_reducible refine Kd.a_Q ?_ _)|(with_reducible refine Kd.a_R ?_ _)|(with_reducible refine Kd.a_0 ?_)));(case aB => exact (by repeat (first|(with_reducible first|exact HB.out|apply a_d|apply a_b|apply a_e|refine a_c ?_ b_S.out)|exact HB.out)));(case aF => exact (fun k_ hk => Kd.fresh' (Kd.R_lt (rup_ b_c.out)) k_ hk));(case aO => exact (by (with_reducible repeat (first|apply Kd.a_J|apply Kd.a_I|apply Kd.a_M));exact Kd.a_U d_x.out (fun _ hk => hk.2)));(case aS => exact (a_j (by repeat (first|(with_reducible first|exact HB.out|apply a_d|apply a_b|apply a_e|refine a_c ?_ b_S.out)|exact HB.out))));(case aL => have:=LMc102.out;omega);intro v425 w138 ho hb hg hat;rw [← Ny424.out] at ho;have b_9:=a_a.mk (ho);replace b_c:=a_a.mk (Kd.f_d (ok:=(fun _ => True)) (rup_ b_c.out) hg hat);replace b_u:=a_a.mk (Kd.f_i (rup_ b_u.out) (Kd.f_c (rup_ d_x.out)) (by decide) hg);replace b_h:=a_a.mk (b_q (g:=b_L) (o:=.cells #[.slice e_8 t416.length e_H] 26 (0,0)) (bup_ b_h.out) hg (Kd.R_ne d_x.out b_h.out (by decide)));replace HB:=a_a.mk (hb);clear d_x ho hb hg hat;obtain ⟨k_h,k_i,k_j⟩:=Kd.a_P b_9.out;subst k_j)|((with_reducible refine a_B (f:=28) rfl ?_);refine a_X (some 89) rfl rfl Try.func28 (by kernel_rfl) rfl #[.slice k_h y424.length k_i] rfl (by (try simp only [List.map_toArray,List.map_cons,List.map_nil]);first|done|rfl|(simp only [List.length_drop,List.length_take];rfl)) ?_;(with_reducible refine (a_l.calls k2 _ _ y424 t427 t430 _ ?side1 ?side2 A103.out).mono ?_);(case side1 => repeat (first|exact (Kd.a_A b_9.out).2.2|(with_reducible refine Kd.a_Q ?_ _)|(with_reducible refine Kd.a_R ?_ _)|(with_reducible refine Kd.a_0 ?_)));(case side2 => exact (Kd.a_A b_9.out).2.1);rintro e w140 ⟨v428,rfl,ho0,hb⟩;refine ⟨_,rfl,?_⟩;have c_M:=a_a.mk (Kd.a_S (Kd.c_v ho0 (Kd.R_lt (rup_ b_u.out))) (a_j (by repeat (first|(with_reducible first|exact HB.out|apply a_d|apply a_b|apply a_e|refine a_c ?_ b_S.out)|exact HB.out))));replace b_c:=a_a.mk (Kd.a_F (rup_ b_c.out) hb);replace b_u:=a_a.mk (Kd.b_I (rup_ b_u.out) (Kd.c_g ho0) hb);replace b_9:=a_a.mk (Kd.a_F (rup_ b_9.out) hb);replace b_h:=a_a.mk (a_f (bup_ b_h.out) hb);replace HB:=a_a.mk (a_i (by repeat (first|(with_reducible first|exact HB.out|apply a_d|apply a_b|apply a_e|refine a_c ?_ b_S.out)|exact HB.out)) hb);(try clear hb);(try clear hb2);(try clear hk);(try clear hi);(try clear ho0))|((with_reducible refine a_w (N:=16) rfl ?_);(try (refine a_H (by rfl) ?_;dsimp only));refine a_v ?hg (N:=16) ?hd (cs:=#[.slice none 0 0]) (t:=26) ?hr ?_;(case hd => rfl);(case hg => rfl);(case hr => first|(go_simp;done)|(go_simp;rfl));intro b_Z hg w141 hbox hb;have c_j:=a_a.mk (hbox);have i_0:=a_a.mk ((by rw [hg];exact (a_j (by repeat (first|(with_reducible first|exact HB.out|apply a_d|apply a_b|apply a_e|refine a_c ?_ b_S.out)|exact HB.out))) : w.heap.size ≤ b_Z));have f_H:=a_a.mk ((by rw [hg];exact (a_j (by repeat (first|(with_reducible first|exact HB.out|apply a_d|apply a_b|apply a_e|refine a_c ?_ b_S.out)|exact HB.out))) : w.heap.size ≤ b_Z));have c_r:=a_a.mk ((by rw [hg];exact Nat.ne_of_lt (a_o (bup_ b_h.out)) : b_L ≠ b_Z));have c_2:=a_a.mk ((by rw [hg];exact Nat.ne_of_gt (a_o (bup_ b_h.out)) : b_Z ≠ b_L));replace b_c:=a_a.mk (Kd.a_F (rup_ b_c.out) hb);replace b_u:=a_a.mk (Kd.a_F (rup_ b_u.out) hb);replace b_9:=a_a.mk (Kd.a_F (rup_ b_9.out) hb);replace c_M:=a_a.mk (Kd.a_F (rup_ c_M.out) hb);replace b_h:=a_a.mk (a_f (bup_ b_h.out) hb);replace HB:=a_a.mk (a_i (by repeat (first|(with_reducible first|exact HB.out|apply a_d|apply a_b|apply a_e|refine a_c ?_ b_S.out)|exact HB.out)) hb);clear hb hbox hg;obtain ⟨e_9,e_I,k_k⟩:=Kd.a_P c_M.out;subst k_k;have k_r:=c_2.out;have k_s:=c_r.out;have j_h : w141.cell? ⟨b_Z,0,none⟩ = some (.slice none 0 0):=(a_m c_j.out 0).trans rfl;have j_i:=a_k c_j.out 0;have j_j : w141.cell? ⟨b_L,0,none⟩ = some (.slice e_8 t416.length e_H):=(a_m b_h.out 0).trans rfl;have j_k:=a_k b_h.out 0)|(go_at_call 14;(with_reducible refine (a_r.calls k2 _ _ t416 _ _ t427 false _ ?side1 ?side2 ?side3 ?side4 A105.out).mono ?_);(case side1 => refine (Kd.a_A (e:=31) (base:=w.heap.size) (ok:=fun k_ => (True ∧ some k_ ≠ (.slice e_9 t427.length e_I : Value).ownBlock)) (n:=t416.length) (c:=e_H) ?_).2.2;exact (by (with_reducible repeat (first|apply Kd.a_J|apply Kd.a_I|apply Kd.a_M));exact (Kd.a_U (Kd.b_i (p:=⟨b_Z,0,none⟩) (Kd.a_N b_u.out c_j.out (by decide)) (fun _ hk => hk.2) (.slice e_9 t427.length e_I)) (fun _ h_ => h_.1))));(case side2 => exact (Kd.a_A b_u.out).2.1);(case side3 => refine (Kd.a_A (e:=31) (base:=w.heap.size) (ok:=fun k_ => (True ∧ some k_ ≠ (.slice e_8 t416.length e_H : Value).ownBlock)) (n:=t427.length) (c:=e_I) ?_).2.2;exact (by (with_reducible repeat (first|apply Kd.a_J|apply Kd.a_I|apply Kd.a_M));exact (Kd.a_U (Kd.b_i (p:=⟨b_Z,0,none⟩) (Kd.a_N c_M.out c_j.out (by decide)) (fun _ hk => hk.2) (.slice e_9 t427.length e_I)) (fun _ h_ => h_.1))));(case side4 => exact (Kd.a_A c_M.out).2.1);rintro e w146 ⟨rfl,hb⟩;replace b_c:=a_a.mk (Kd.a_F (by (with_reducible repeat (first|apply Kd.a_J|apply Kd.a_I|apply Kd.a_M));exact (Kd.a_U (Kd.b_i (p:=⟨b_Z,0,none⟩) (Kd.a_N b_c.out c_j.out (by decide)) (fun _ hk => hk.2) (.slice e_9 t427.length e_I)) (fun _ h_ => h_.1))) hb);replace b_u:=a_a.mk (Kd.a_F (by (with_reducible repeat (first|apply Kd.a_J|apply Kd.a_I|apply Kd.a_M));exact (Kd.a_U (Kd.b_i (p:=⟨b_Z,0,none⟩) (Kd.a_N b_u.out c_j.out (by decide)) (fun _ hk => hk.2) (.slice e_9 t427.length e_I)) (fun _ h_ => h_.1))) hb);replace b_9:=a_a.mk (Kd.a_F (by (with_reducible repeat (first|apply Kd.a_J|apply Kd.a_I|apply Kd.a_M));exact (Kd.a_U (Kd.b_i (p:=⟨b_Z,0,none⟩) (Kd.a_N b_9.out c_j.out (by decide)) (fun _ hk => hk.2) (.slice e_9 t427.length e_I)) (fun _ h_ => h_.1))) hb);replace c_M:=a_a.mk (Kd.a_F (by (with_reducible repeat (first|apply Kd.a_J|apply Kd.a_I|apply Kd.a_M));exact (Kd.a_U (Kd.b_i (p:=⟨b_Z,0,none⟩) (Kd.a_N c_M.out c_j.out (by decide)) (fun _ hk => hk.2) (.slice e_9 t427.length e_I)) (fun _ h_ => h_.1))) hb);replace b_h:=a_a.mk (a_f (g:=b_L) (o:=.cells #[.slice e_8 t416.length e_H] 26 (0,0)) (by (with_reducible repeat (first|refine a_n ?_ _|refine a_q ?_|refine a_s ?_ _));refine a_G ?_ c_r.out _;(with_reducible repeat (first|refine a_n ?_ _|refine a_q ?_|refine a_s ?_ _));exact b_h.out) hb);replace c_j:=a_a.mk (a_f (g:=b_Z) (o:=.cells #[.slice e_9 t427.length e_I] 26 (0,0)) (by (with_reducible repeat (first|refine a_n ?_ _|refine a_q ?_|refine a_s ?_ _));refine a_L (cs:=#[.slice none 0 0]) ?_ 0 _ rfl;(with_reducible repeat (first|refine a_n ?_ _|refine a_q ?_|refine a_s ?_ _));exact c_j.out) hb);replace HB:=a_a.mk (a_i (by repeat (first|(with_reducible first|exact HB.out|apply a_d|apply a_b|apply a_e|refine a_c ?_ b_S.out|refine a_c ?_ f_H.out)|exact HB.out)) hb);(try clear hb);(try clear hb2);(try clear hk);(try clear hi)))
     go_ret
     exact ⟨by first|rfl|(simp [a_z,a_y] <;> rfl)|(simp only [← hji97];first|rfl|(simp [a_z,a_y] <;> rfl))|(simp [*, a_z,a_y] <;> rfl),by repeat (first|(with_reducible first|exact HB.out|apply a_d|apply a_b|apply a_e|refine a_c ?_ b_S.out|refine a_c ?_ f_H.out)|exact HB.out)⟩
end Go.Proofs.Ytkhbffjfclepfaa.Q
end
section
namespace Go.Proofs.Ytkhbffjfclepfaa.Pure
open Go.RowKit Go.Proofs.Ytkhbffjfclepfaa.Q Go.Proofs.YtkhbffjfclepfaaW.PrintWords Go.Proofs.YtkhbffjfclepfaaW.PrintLast Go.Proofs.YtkhbffjfclepfaaW.PrintMore
set_option linter.unusedVariables false
set_option linter.unusedSimpArgs false
theorem c_J (n : Nat) (h : n < 9223372036854775807) : wrap64 ((n : Int) + 1) = ((n + 1 : Nat) : Int):=by unfold wrap64;omega
theorem e_p (n : Int) (h0 : -9223372036854775808 ≤ n) (h1 : n ≤ 9223372036854775807) : wrap64 n = n:=by unfold wrap64;omega
theorem wraps_u32 (n : Int) (h₀ : 0 ≤ n) (h₁ : n < 2 ^ 32) : IntKind.u32.wrap n = n:=by rw [IntKind.wrap_u32];omega
theorem i_t {a b : Nat} (ha : a < 2 ^ 32) (hb : b < 2 ^ 32) : Go.bits .and .u32 (a : Int) (b : Int) = ((a &&& b : Nat) : Int):=(bits_nat .u32 32 (by decide) wraps_u32 a b ha hb).1
theorem or_n {a b : Nat} (ha : a < 2 ^ 32) (hb : b < 2 ^ 32) : Go.bits .or .u32 (a : Int) (b : Int) = ((a ||| b : Nat) : Int):=(bits_nat .u32 32 (by decide) wraps_u32 a b ha hb).2
def nd (a b : Nat) : Nat:=(BitVec.ofNat 32 a &&& ~~~BitVec.ofNat 32 b).toNat
theorem j_r (a b : Nat) : nd a b < 2 ^ 32:=BitVec.isLt _
theorem nd_n (a b : Nat) : Go.bits .andNot .u32 (a : Int) (b : Int) = (nd a b : Int):=by
 have h : Go.bits .andNot .u32 (a : Int) (b : Int) = IntKind.u32.wrap ((nd a b : Nat) : Int):=by
  simp only [Go.bits,BitVec.ofInt_natCast,nd]
  rfl
 rw [h]
 exact wraps_u32 _ (Int.natCast_nonneg _) (by have:=j_r a b;exact_mod_cast this)
theorem i_D {a b : Nat} (ha : a < 2 ^ 32) (i : Nat) : (nd a b).testBit i = (a.testBit i && !b.testBit i):=by
 unfold nd
 rw [BitVec.testBit_toNat,BitVec.getLsbD_and,BitVec.getLsbD_not,BitVec.getLsbD_ofNat,BitVec.getLsbD_ofNat]
 by_cases h : i < 32
 ·simp [h]
 have : a.testBit i = false:=Nat.testBit_lt_two_pow (Nat.lt_of_lt_of_le ha (Nat.pow_le_pow_right (by decide) (by omega)))
 simp [h,this]
theorem e_t {a b : Nat} : a &&& b = 0 ↔ ∀ i,a.testBit i = true → b.testBit i = false:=by
 constructor
 ·intro h i hi
  have:=congrArg (Nat.testBit · i) h
  simp [Nat.testBit_and,hi] at this
  exact this
 intro h
 apply Nat.eq_of_testBit_eq
 intro i
 rw [Nat.testBit_and,Nat.zero_testBit]
 cases ha : a.testBit i
 ·rfl
 simp [h i ha]
theorem h_Z {a b : Nat} (ha : a < 2 ^ 32) : nd a b = 0 ↔ ∀ i,a.testBit i = true → b.testBit i = true:=by
 constructor
 ·intro h i hi
  have:=congrArg (Nat.testBit · i) h
  simp [i_D ha,hi] at this
  exact this
 intro h
 apply Nat.eq_of_testBit_eq
 intro i
 rw [i_D ha,Nat.zero_testBit]
 cases hx : a.testBit i
 ·rfl
 simp [h i hx]
theorem e_u {a i : Nat} (ha : a < 256) (hi : 8 ≤ i) : a.testBit i = false:=Nat.testBit_lt_two_pow (Nat.lt_of_lt_of_le (show a < 2 ^ 8 by omega) (Nat.pow_le_pow_right (by decide) hi))
theorem f_Q {a : Nat} (h : ∀ i,8 ≤ i → a.testBit i = false) : a < 256:=by
 apply Nat.lt_of_not_le
 intro hc
 obtain ⟨i,hi,hi'⟩:=Nat.exists_ge_and_testBit_of_ge_two_pow (show 2 ^ 8 ≤ a by omega)
 rw [h i hi] at hi'
 cases hi'
theorem i_y {a : Nat} (ha : a < 2 ^ 32) : nd a 255 = 0 ↔ a < 256:=by
 rw [h_Z ha]
 constructor
 ·intro h
  refine f_Q fun i hi => ?_
  cases hx : a.testBit i
  ·rfl
  have:=h i hx
  rw [e_u (by omega) hi] at this
  cases this
 intro h i hi
 have h8 : i < 8:=by
  apply Nat.lt_of_not_le
  intro hc
  rw [e_u h hc] at hi
  cases hi
 have : i = 0 ∨ i = 1 ∨ i = 2 ∨ i = 3 ∨ i = 4 ∨ i = 5 ∨ i = 6 ∨ i = 7:=by omega
 rcases this with rfl|rfl|rfl|rfl|rfl|rfl|rfl|rfl <;> decide
def up (S : List Nat) : List Int:=S.map fun (n : Nat) => (n : Int)
theorem a_K (S : List Nat) : (up S).length = S.length:=List.length_map _
theorem d_r (S R : List Nat) : up (S ++ R) = up S ++ up R:=List.map_append
theorem i_s (l : List Int) (h : ∀ x ∈ l,0 ≤ x ∧ x < 4294967296) : ∃ S,l = up S ∧ ∀ s ∈ S,s < 4294967296:=by
 refine ⟨l.map Int.toNat,?_,?_⟩
 ·unfold up
  rw [List.map_map]
  conv => lhs;rw [← List.map_id l]
  apply List.map_congr_left
  intro x hx
  have:=h x hx
  simp;omega
 intro s hs
 obtain ⟨x,hx,rfl⟩:=List.mem_map.1 hs
 have:=h x hx
 omega
theorem j_l (S : List Nat) (i : Nat) : rd (up S) (i : Int) = ((S.getD i 0 : Nat) : Int):=by
 unfold rd up
 simp [List.getD_eq_getElem?_getD]
 cases S[i]? <;> simp
def cnt (S : List Nat) (c : Nat) : Nat:=S.countP (·.testBit c)
theorem e_r (s : Nat) (S : List Nat) (c : Nat) : cnt (s :: S) c = (if s.testBit c then 1 else 0) + cnt S c:=by
 unfold cnt
 rw [List.countP_cons]
 omega
theorem g_o (c : Nat) : cnt [] c = 0:=rfl
structure Good (S : List Nat) : Prop where
 len1 : 1 ≤ S.length
 len4 : S.length ≤ 4
 each : ∀ s ∈ S,s ≠ 0 ∧ s < 256
 one : ∃ m,m ≤ 8 ∧ ∀ c,cnt S c = if c < m then 1 else 0
open Classical in
noncomputable def gd (S : List Nat) : Bool:=decide (Good S)
theorem d_z {S : List Nat} : gd S = true ↔ Good S:=by unfold gd;simp
theorem h_l {S : List Nat} : gd S = false ↔ ¬Good S:=by unfold gd;simp
theorem f_f (S : List Nat) (a c : Nat) : (S.foldl (· ||| ·) a).testBit c = (a.testBit c || decide (1 ≤ cnt S c)):=by
 induction S generalizing a with
 | nil => simp [g_o]
 | cons s S ih =>
  rw [List.foldl_cons,ih,Nat.testBit_or,e_r]
  cases a.testBit c <;> cases s.testBit c <;> simp
theorem h_E : ∀ U,U < 256 → U &&& (U + 1) = 0 → ∃ m,m ≤ 8 ∧ U = 2 ^ m - 1:=by
 intro U hU h
 have key : ∀ U : Fin 256,U.val &&& (U.val + 1) = 0 → U.val = 0 ∨ U.val = 1 ∨ U.val = 3 ∨ U.val = 7 ∨ U.val = 15 ∨ U.val = 31 ∨ U.val = 63 ∨ U.val = 127 ∨ U.val = 255:=by decide +kernel
 rcases key ⟨U,hU⟩ h with h|h|h|h|h|h|h|h|h <;> simp only at h
 ·exact ⟨0,by decide,h⟩
 ·exact ⟨1,by decide,h⟩
 ·exact ⟨2,by decide,h⟩
 ·exact ⟨3,by decide,h⟩
 ·exact ⟨4,by decide,h⟩
 ·exact ⟨5,by decide,h⟩
 ·exact ⟨6,by decide,h⟩
 ·exact ⟨7,by decide,h⟩
 exact ⟨8,by decide,h⟩
theorem h_n (S : List Nat) : Good S ↔ (1 ≤ S.length ∧ S.length ≤ 4) ∧ (∀ s ∈ S,s ≠ 0 ∧ s < 256) ∧ (∀ c,cnt S c ≤ 1) ∧ (S.foldl (· ||| ·) 0) &&& ((S.foldl (· ||| ·) 0 + 1) % 4294967296) = 0:=by
 have hU : (∀ s ∈ S,s ≠ 0 ∧ s < 256) → S.foldl (· ||| ·) 0 < 256:=fun h => f_Q fun i hi => by
  rw [f_f]
  have : cnt S i = 0:=by
   unfold cnt
   rw [List.countP_eq_zero]
   intro s hs
   simp [e_u (h s hs).2 hi]
  simp [this]
 constructor
 ·rintro ⟨h1,h4,he,m,hm,ho⟩
  refine ⟨⟨h1,h4⟩,he,fun c => by rw [ho];split <;> omega,?_⟩
  have hu : S.foldl (· ||| ·) 0 = 2 ^ m - 1:=by
   apply Nat.eq_of_testBit_eq
   intro c
   rw [f_f,ho,Nat.testBit_two_pow_sub_one]
   by_cases hc : c < m <;> simp [hc]
  rw [hu]
  have : m = 0 ∨ m = 1 ∨ m = 2 ∨ m = 3 ∨ m = 4 ∨ m = 5 ∨ m = 6 ∨ m = 7 ∨ m = 8:=by omega
  rcases this with rfl|rfl|rfl|rfl|rfl|rfl|rfl|rfl|rfl <;> decide
 rintro ⟨⟨h1,h4⟩,he,hc,hz⟩
 have h:=hU he
 rw [Nat.mod_eq_of_lt (by omega)] at hz
 obtain ⟨m,hm,hu⟩:=h_E _ h hz
 refine ⟨h1,h4,he,m,hm,fun c => ?_⟩
 have:=f_f S 0 c
 rw [hu,Nat.testBit_two_pow_sub_one] at this
 simp at this
 have:=hc c
 by_cases hcm : c < m
 ·simp [hcm] at this ⊢; omega
 simp [hcm] at this ⊢; omega
def pc (s : Nat) : Nat:=(s.testBit 0).toNat + (s.testBit 1).toNat + (s.testBit 2).toNat + (s.testBit 3).toNat + (s.testBit 4).toNat + (s.testBit 5).toNat + (s.testBit 6).toNat + (s.testBit 7).toNat
theorem i_A (S : List Nat) : (S.map pc).sum = cnt S 0 + cnt S 1 + cnt S 2 + cnt S 3 + cnt S 4 + cnt S 5 + cnt S 6 + cnt S 7:=by
 induction S with
 | nil => rfl
 | cons s S ih =>
  have h : ∀ c,(if s.testBit c = true then 1 else 0) = (s.testBit c).toNat:=fun c => by cases s.testBit c <;> rfl
  simp only [List.map_cons,List.sum_cons,e_r,ih,pc,h]
  omega
theorem g_m (S : List Nat) : Good S ↔ (1 ≤ S.length ∧ S.length ≤ 4) ∧ (∀ s ∈ S,s ≠ 0 ∧ s < 256) ∧ ∀ c,c < (S.map pc).sum → c < 8 ∧ cnt S c = 1:=by
 rw [i_A]
 constructor
 ·rintro ⟨h1,h4,he,m,hm,ho⟩
  refine ⟨⟨h1,h4⟩,he,fun c hc => ?_⟩
  simp only [ho] at hc ⊢
  have : m = 0 ∨ m = 1 ∨ m = 2 ∨ m = 3 ∨ m = 4 ∨ m = 5 ∨ m = 6 ∨ m = 7 ∨ m = 8:=by omega
  rcases this with rfl|rfl|rfl|rfl|rfl|rfl|rfl|rfl|rfl <;> simp at hc <;> exact ⟨by omega,by rw [if_pos (by omega)]⟩
 rintro ⟨⟨h1,h4⟩,he,hc⟩
 have hz : ∀ i,8 ≤ i → cnt S i = 0:=fun i hi => by
  unfold cnt
  rw [List.countP_eq_zero]
  intro s hs
  simp [e_u (he s hs).2 hi]
 generalize hn : cnt S 0 + cnt S 1 + cnt S 2 + cnt S 3 + cnt S 4 + cnt S 5 + cnt S 6 + cnt S 7 = n at hc
 have hn8 : n ≤ 8:=by
  apply Nat.le_of_not_lt
  intro h
  have:=(hc 8 h).1
  omega
 refine ⟨h1,h4,he,n,hn8,fun c => ?_⟩
 by_cases h8 : 8 ≤ c
 ·rw [hz c h8,if_neg (by omega)]
 by_cases hcn : c < n
 ·rw [if_pos hcn];exact (hc c hcn).2
 rw [if_neg hcn]
 have g : ∀ i,i < n → cnt S i = 1:=fun i hi => (hc i hi).2
 have hcs : c = 0 ∨ c = 1 ∨ c = 2 ∨ c = 3 ∨ c = 4 ∨ c = 5 ∨ c = 6 ∨ c = 7:=by omega
 have hns : n = 0 ∨ n = 1 ∨ n = 2 ∨ n = 3 ∨ n = 4 ∨ n = 5 ∨ n = 6 ∨ n = 7:=by omega
 have g0:=g 0;have g1:=g 1;have g2:=g 2;have g3:=g 3;have g4:=g 4;have g5:=g 5;have g6:=g 6
 rcases hns with rfl|rfl|rfl|rfl|rfl|rfl|rfl|rfl <;> simp at g0 g1 g2 g3 g4 g5 g6 <;> rcases hcs with rfl|rfl|rfl|rfl|rfl|rfl|rfl|rfl <;> omega
end Go.Proofs.Ytkhbffjfclepfaa.Pure
end
section
namespace Go.Proofs.Ytkhbffjfclepfaa.Pure
open Go.RowKit Go.Proofs.Ytkhbffjfclepfaa.Q Go.Proofs.YtkhbffjfclepfaaW.PrintWords Go.Proofs.YtkhbffjfclepfaaW.PrintLast Go.Proofs.YtkhbffjfclepfaaW.PrintMore
set_option linter.unusedVariables false
set_option linter.unusedSimpArgs false
def hb (s : Nat) (a : Int) : Bool:=decide (0 ≤ a ∧ a < 8) && s.testBit a.toNat
theorem h_q (s : Nat) (c : Nat) (h : c < 8) : hb s (c : Int) = s.testBit c:=by unfold hb;rw [decide_eq_true (by omega)];simp
theorem h_J (s : Nat) (a : Int) (h : a < 0 ∨ 8 ≤ a) : hb s a = false:=by unfold hb;rw [decide_eq_false (by omega)];rfl
theorem eight {a : Int} (h0 : 0 ≤ a) (h8 : a < 8) : ∃ c : Nat,c < 8 ∧ a = (c : Int):=⟨a.toNat,by omega,by omega⟩
theorem f_T (s : Nat) (a : Int) : a_1.f (s : Int) a = some (hb s a):=by
 unfold a_1.f b_e.f
 by_cases h : 0 ≤ a ∧ a < 8
 rotate_left
 ·rw [h_J s a (by omega)]
  by_cases h0 : a ≥ 0
  ·rw [if_pos h0]
   simp only [Option.bind_some]
   rw [if_neg (by simp;omega)]
  rw [if_neg h0]
  rfl
 obtain ⟨c,hc,rfl⟩:=eight h.1 h.2
 rw [if_pos h.1]
 simp only [Option.bind_some]
 rw [if_pos (decide_eq_true h.2),if_pos h.1,h_q s c hc]
 have e : shr .u32 (s : Int) (c : Int) = ((s / 2 ^ c : Nat) : Int):=by
  unfold shr
  rw [show min ((c : Int).toNat) (IntKind.bits .u32) = c by simp [IntKind.bits];omega]
  simp
 rw [e,Nat.testBit_eq_decide_div_mod_eq]
 congr 1
 have e2 : Int.tmod ((s / 2 ^ c : Nat) : Int) 2 = ((s / 2 ^ c % 2 : Nat) : Int):=by
  rw [Int.tmod_eq_emod_of_nonneg (Int.natCast_nonneg _)]
  simp
 rw [e2]
 by_cases h1 : s / 2 ^ c % 2 = 1
 ·rw [h1];rfl
 have : s / 2 ^ c % 2 = 0:=by omega
 rw [this];rfl
theorem h_s (s : Nat) (hs : s < 2 ^ 32) : a_V.f (s : Int) = some (if s < 256 then 0 else 140):=by
 unfold a_V.f
 have e:=nd_n s 255
 rw [show ((255 : Nat) : Int) = 255 from rfl] at e
 rw [e]
 by_cases h : s < 256
 ·rw [if_pos (by have:=(i_y hs).2 h;omega),if_pos h]
 rw [if_neg (by intro h2;exact h ((i_y hs).1 (by omega))),if_neg h]
theorem g_a (s : Nat) : a_4.f (s : Int) = some (decide (s < 256)):=by
 unfold a_4.f
 by_cases h : s < 256
 ·rw [decide_eq_true h,decide_eq_true (by omega)]
 rw [decide_eq_false h,decide_eq_false (by omega)]
def lst (s : Nat) : Nat → Nat → List Nat
 | 0,_ => []
 | n + 1,i => if s.testBit i then i :: lst s n (i + 1) else lst s n (i + 1)
theorem e_v (s : Nat) : ∀ n i (acc : List Int),i + n = 8 → acc.length ≤ i → Ev (fun k => a_p.l0 k (s : Int) acc (i : Int)) (acc ++ up (lst s n i))
 | 0,i,acc,hi,ha => ⟨1,fun k hk => by
  obtain ⟨k,rfl⟩ : ∃ k',k = k' + 1:=⟨k - 1,by omega⟩
  show a_p.l0 (k + 1) _ _ _ = _
  rw [a_p.l0,if_neg (by omega)]
  simp [lst,up]⟩
 | n + 1,i,acc,hi,ha => by
  by_cases hb1 : s.testBit i = true
  ·obtain ⟨K,hK⟩:=e_v s n (i + 1) (acc ++ [(i : Int)]) (by omega) (by simp;omega)
   refine ⟨K + 1,fun k hk => ?_⟩
   obtain ⟨k,rfl⟩ : ∃ k',k = k' + 1:=⟨k - 1,by omega⟩
   show a_p.l0 (k + 1) _ _ _ = _
   rw [a_p.l0,if_pos (by omega),f_T,h_q s i (by omega),hb1]
   rw [Option.bind_some,if_pos rfl,if_pos (by omega),c_J i (by omega)]
   have:=hK k (by omega)
   rw [show a_p.l0 k (s : Int) (acc ++ [(i : Int)]) ((i + 1 : Nat) : Int) = _ from this]
   simp [lst,hb1,up]
  ·obtain ⟨K,hK⟩:=e_v s n (i + 1) acc (by omega) (by omega)
   refine ⟨K + 1,fun k hk => ?_⟩
   obtain ⟨k,rfl⟩ : ∃ k',k = k' + 1:=⟨k - 1,by omega⟩
   have hb0 : s.testBit i = false:=by simpa using hb1
   show a_p.l0 (k + 1) _ _ _ = _
   rw [a_p.l0,if_pos (by omega),f_T,h_q s i (by omega),hb0]
   rw [Option.bind_some,if_neg (by simp),c_J i (by omega)]
   have:=hK k (by omega)
   rw [show a_p.l0 k (s : Int) acc ((i + 1 : Nat) : Int) = _ from this]
   simp [lst,hb0]
theorem i_a (s : Nat) : Ev (fun k => a_p.f k (s : Int)) (up (lst s 8 0)):=by
 have:=e_v s 8 0 [] (by decide) (by decide)
 simpa [a_p.f] using this
theorem c_3 (s : Nat) : (lst s 8 0).length = pc s:=by
 have h : ∀ n i,(lst s n i).length = ((List.range n).map fun j => (s.testBit (i + j)).toNat).sum:=by
  intro n
  induction n with
  | zero => intro i;rfl
  | succ n ih =>
   intro i
   rw [List.range_succ_eq_map,List.map_cons,List.sum_cons,List.map_map]
   have e : ((List.range n).map ((fun j => (s.testBit (i + j)).toNat) ∘ Nat.succ)) = (List.range n).map fun j => (s.testBit (i + 1 + j)).toNat:=by
    apply List.map_congr_left
    intro j _
    simp only [Function.comp]
    rw [show i + Nat.succ j = i + 1 + j by omega]
   rw [e, ← ih (i + 1)]
   show (if s.testBit i = true then i :: lst s n (i + 1) else lst s n (i + 1)).length = _
   cases hx : s.testBit i <;> simp [hx]
   omega
 rw [h 8 0]
 simp [List.range_succ,pc]
 omega
theorem f_N (s : Nat) : (lst s 8 0).length ≤ 8:=by
 rw [c_3]
 unfold pc
 have : ∀ b : Bool,b.toNat ≤ 1:=fun b => by cases b <;> decide
 have h0:=this (s.testBit 0);have h1:=this (s.testBit 1);have h2:=this (s.testBit 2);have h3:=this (s.testBit 3)
 have h4:=this (s.testBit 4);have h5:=this (s.testBit 5);have h6:=this (s.testBit 6);have h7:=this (s.testBit 7)
 omega
end Go.Proofs.Ytkhbffjfclepfaa.Pure
end
