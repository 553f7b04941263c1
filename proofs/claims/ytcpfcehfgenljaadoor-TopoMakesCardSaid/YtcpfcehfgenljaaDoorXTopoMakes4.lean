/- Part 5 of 5 of what the row of TopoMakes stands on: contracts over the given program's functions, the plain law, the row; no condition beyond those that each theorem states. -/
import Derived.Test.YtcpfcehfgenljaaDoorXTopoMakes3
import Derived.Test.YtcpfcehfgenljaaDoorTie
import Derived.Test.YtcpfcehfgenljaaDoorCards
import Derived.SevenTiedAt
import Derived.LaidMore
import Derived.Lib.LaidTab
section
namespace Go.Proofs.YtcpfcehfgenljaaDoor.Q
open Go.RowKit Go.Proofs.YtcpfcehfgenljaaDoorW.PrintWords Go.Proofs.YtcpfcehfgenljaaDoorW.PrintLast Go.Proofs.YtcpfcehfgenljaaDoorW.PrintMore
set_option linter.unusedVariables false
set_option linter.unusedSimpArgs false
attribute [local go_sem high] h_K
mutual
def a_c.j4 : Nat → List (S57) → Option (Bool)
 | 0,_ => none
 | k + 1,x1 => a_c.l2 k x1 (x1.length : Int) 0
def a_c.l2 : Nat → List (S57) → Int → Int → Option (Bool)
 | 0,_,_,_ => none
 | k + 1,x70,x71,x72 => if x72 < x71 then (if 0 ≤ x72 then (if x72 < (x70.length : Int) then (if x72 = 20 then (some true) else ((a_o.f k ((a_v x70 x72).f0) ((a_v x70 x72).f1) ((a_v x70 x72).f2)).bind fun bt306 => ((a_g.f k ((a_v x70 x72).f0) ((a_v x70 x72).f1) ((a_v x70 x72).f2)).bind fun bt311 => (if (bt311.2 != (bt306.2 == 0)) = true then (some false) else (if bt311.2 = true then ((a_p.f k bt306.1 bt311.1).bind fun t316 => (if t316 = true then (a_c.l2 k x70 x71 (wrap64 (x72 + 1))) else (some false))) else (if bt306.2 = 2 then ((a_p.f k bt306.1 bt311.1).bind fun t317 => (if t317 = true then (a_c.l2 k x70 x71 (wrap64 (x72 + 1))) else (some false))) else (some false))))))) else (none)) else (none)) else (some true)
def a_c.l0 : Nat → List (S57) → List Int → Int → Int → Option (Bool)
 | 0,_,_,_,_ => none
 | k + 1,x1,x19,x20,x21 => if x21 < x20 then (if 0 ≤ x21 then (if x21 < (x19.length : Int) then (if x21 = 20 then (a_c.j4 k x1) else ((a_T.f k (rd x19 x21)).bind fun bt297 => (if (rd x19 x21) < 1 then (a_c.j1 k x1 (rd x19 x21) bt297.2 x19 x20 x21 true bt297.1) else (a_c.j1 k x1 (rd x19 x21) bt297.2 x19 x20 x21 (decide ((rd x19 x21) > 8)) bt297.1)))) else (none)) else (none)) else (a_c.j4 k x1)
def a_c.j1 : Nat → List (S57) → Int → Int → List Int → Int → Int → Bool → List (S56) → Option (Bool)
 | 0,_,_,_,_,_,_,_,_ => none
 | k + 1,x1,x6,x8,x19,x20,x21,x38,x302000 => if x38 = true then (if x8 = 2 then (if (x302000.length : Int) = 0 then (a_c.l0 k x1 x19 x20 (wrap64 (x21 + 1))) else (some false)) else (some false)) else (if x8 = 0 then (a_c.j2 k x1 x19 x20 x21 ((x302000.length : Int) != x6) x302000) else (a_c.j2 k x1 x19 x20 x21 true x302000))
def a_c.j2 : Nat → List (S57) → List Int → Int → Int → Bool → List (S56) → Option (Bool)
 | 0,_,_,_,_,_,_ => none
 | k + 1,x1,x19,x20,x21,x55,x302000 => if x55 = true then (some false) else (a_c.l1 k x1 x19 x20 x21 x302000 (x302000.length : Int) 0)
def a_c.l1 : Nat → List (S57) → List Int → Int → Int → List (S56) → Int → Int → Option (Bool)
 | 0,_,_,_,_,_,_,_ => none
 | k + 1,x1,x19,x20,x21,x57,x58,x59 => if x59 < x58 then (if 0 ≤ x59 then (if x59 < (x57.length : Int) then (if (!(((a_u x57 x59).f0) == 0) || (!(((a_u x57 x59).f1) == x59))) = true then (some false) else (a_c.l1 k x1 x19 x20 x21 x57 x58 (wrap64 (x59 + 1)))) else (none)) else (none)) else (a_c.l0 k x1 x19 x20 (wrap64 (x21 + 1)))
end
def a_c.f (k : Nat) (l0 : List Int) (l1 : List (S57)) : Option (Bool):=(a_w.f k).bind fun t295 => (if t295 = true then (a_c.l0 k l1 l0 (l0.length : Int) 0) else (some false))
theorem a_c.b_4 : ∀ k,(∀ y0,LeO (a_c.j4 k y0) (a_c.j4 (k + 1) y0)) ∧ (∀ y0 y1 y2,LeO (a_c.l2 k y0 y1 y2) (a_c.l2 (k + 1) y0 y1 y2)) ∧ (∀ y0 y1 y2 y3,LeO (a_c.l0 k y0 y1 y2 y3) (a_c.l0 (k + 1) y0 y1 y2 y3)) ∧ (∀ y0 y1 y2 y3 y4 y5 y6 y7,LeO (a_c.j1 k y0 y1 y2 y3 y4 y5 y6 y7) (a_c.j1 (k + 1) y0 y1 y2 y3 y4 y5 y6 y7)) ∧ (∀ y0 y1 y2 y3 y4 y5,LeO (a_c.j2 k y0 y1 y2 y3 y4 y5) (a_c.j2 (k + 1) y0 y1 y2 y3 y4 y5)) ∧ (∀ y0 y1 y2 y3 y4 y5 y6,LeO (a_c.l1 k y0 y1 y2 y3 y4 y5 y6) (a_c.l1 (k + 1) y0 y1 y2 y3 y4 y5 y6))
 | 0 => ⟨fun _ r h => by simp [a_c.j4] at h,fun _ _ _ r h => by simp [a_c.l2] at h,fun _ _ _ _ r h => by simp [a_c.l0] at h,fun _ _ _ _ _ _ _ _ r h => by simp [a_c.j1] at h,fun _ _ _ _ _ _ r h => by simp [a_c.j2] at h,fun _ _ _ _ _ _ _ r h => by simp [a_c.l1] at h⟩
 | k + 1 => by
  obtain ⟨ih0,ih1,ih2,ih3,ih4,ih5⟩:=a_c.b_4 k
  refine ⟨?_,?_,?_,?_,?_,?_⟩
  ·intro y0
   unfold a_c.j4
   repeat' first
   | (with_reducible exact ih0 _)
   | (with_reducible exact ih1 _ _ _)
   | (with_reducible exact ih2 _ _ _ _)
   | (with_reducible exact ih3 _ _ _ _ _ _ _ _)
   | (with_reducible exact ih4 _ _ _ _ _ _)
   | (with_reducible exact ih5 _ _ _ _ _ _ _)
   | (with_reducible exact a_w.mono _)
   | (with_reducible exact a_g.mono _ _ _ _)
   | (with_reducible exact a_p.mono _ _ _)
   | (with_reducible exact a_T.mono _ _)
   | (with_reducible exact a_o.mono _ _ _ _)
   | (with_reducible exact LeO.refl _)
   | (with_reducible exact LeO.none _)
   | (with_reducible refine LeO.ite ?_ ?_)
   | (with_reducible refine LeO.bind ?_ (fun _ => ?_))
   | exact ih0 _
   | exact ih1 _ _ _
   | exact ih2 _ _ _ _
   | exact ih3 _ _ _ _ _ _ _ _
   | exact ih4 _ _ _ _ _ _
   | exact ih5 _ _ _ _ _ _ _
   | exact a_w.mono _
   | exact a_g.mono _ _ _ _
   | exact a_p.mono _ _ _
   | exact a_T.mono _ _
   | exact a_o.mono _ _ _ _
   | exact LeO.none _
   | refine LeO.ite ?_ ?_
   | refine LeO.bind ?_ (fun _ => ?_)
  ·intro y0 y1 y2
   unfold a_c.l2
   repeat' first
   | (with_reducible exact ih0 _)
   | (with_reducible exact ih1 _ _ _)
   | (with_reducible exact ih2 _ _ _ _)
   | (with_reducible exact ih3 _ _ _ _ _ _ _ _)
   | (with_reducible exact ih4 _ _ _ _ _ _)
   | (with_reducible exact ih5 _ _ _ _ _ _ _)
   | (with_reducible exact a_w.mono _)
   | (with_reducible exact a_g.mono _ _ _ _)
   | (with_reducible exact a_p.mono _ _ _)
   | (with_reducible exact a_T.mono _ _)
   | (with_reducible exact a_o.mono _ _ _ _)
   | (with_reducible exact LeO.refl _)
   | (with_reducible exact LeO.none _)
   | (with_reducible refine LeO.ite ?_ ?_)
   | (with_reducible refine LeO.bind ?_ (fun _ => ?_))
   | exact ih0 _
   | exact ih1 _ _ _
   | exact ih2 _ _ _ _
   | exact ih3 _ _ _ _ _ _ _ _
   | exact ih4 _ _ _ _ _ _
   | exact ih5 _ _ _ _ _ _ _
   | exact a_w.mono _
   | exact a_g.mono _ _ _ _
   | exact a_p.mono _ _ _
   | exact a_T.mono _ _
   | exact a_o.mono _ _ _ _
   | exact LeO.none _
   | refine LeO.ite ?_ ?_
   | refine LeO.bind ?_ (fun _ => ?_)
  ·intro y0 y1 y2 y3
   unfold a_c.l0
   repeat' first
   | (with_reducible exact ih0 _)
   | (with_reducible exact ih1 _ _ _)
   | (with_reducible exact ih2 _ _ _ _)
   | (with_reducible exact ih3 _ _ _ _ _ _ _ _)
   | (with_reducible exact ih4 _ _ _ _ _ _)
   | (with_reducible exact ih5 _ _ _ _ _ _ _)
   | (with_reducible exact a_w.mono _)
   | (with_reducible exact a_g.mono _ _ _ _)
   | (with_reducible exact a_p.mono _ _ _)
   | (with_reducible exact a_T.mono _ _)
   | (with_reducible exact a_o.mono _ _ _ _)
   | (with_reducible exact LeO.refl _)
   | (with_reducible exact LeO.none _)
   | (with_reducible refine LeO.ite ?_ ?_)
   | (with_reducible refine LeO.bind ?_ (fun _ => ?_))
   | exact ih0 _
   | exact ih1 _ _ _
   | exact ih2 _ _ _ _
   | exact ih3 _ _ _ _ _ _ _ _
   | exact ih4 _ _ _ _ _ _
   | exact ih5 _ _ _ _ _ _ _
   | exact a_w.mono _
   | exact a_g.mono _ _ _ _
   | exact a_p.mono _ _ _
   | exact a_T.mono _ _
   | exact a_o.mono _ _ _ _
   | exact LeO.none _
   | refine LeO.ite ?_ ?_
   | refine LeO.bind ?_ (fun _ => ?_)
  ·intro y0 y1 y2 y3 y4 y5 y6 y7
   unfold a_c.j1
   repeat' first
   | (with_reducible exact ih0 _)
   | (with_reducible exact ih1 _ _ _)
   | (with_reducible exact ih2 _ _ _ _)
   | (with_reducible exact ih3 _ _ _ _ _ _ _ _)
   | (with_reducible exact ih4 _ _ _ _ _ _)
   | (with_reducible exact ih5 _ _ _ _ _ _ _)
   | (with_reducible exact a_w.mono _)
   | (with_reducible exact a_g.mono _ _ _ _)
   | (with_reducible exact a_p.mono _ _ _)
   | (with_reducible exact a_T.mono _ _)
   | (with_reducible exact a_o.mono _ _ _ _)
   | (with_reducible exact LeO.refl _)
   | (with_reducible exact LeO.none _)
   | (with_reducible refine LeO.ite ?_ ?_)
   | (with_reducible refine LeO.bind ?_ (fun _ => ?_))
   | exact ih0 _
   | exact ih1 _ _ _
   | exact ih2 _ _ _ _
   | exact ih3 _ _ _ _ _ _ _ _
   | exact ih4 _ _ _ _ _ _
   | exact ih5 _ _ _ _ _ _ _
   | exact a_w.mono _
   | exact a_g.mono _ _ _ _
   | exact a_p.mono _ _ _
   | exact a_T.mono _ _
   | exact a_o.mono _ _ _ _
   | exact LeO.none _
   | refine LeO.ite ?_ ?_
   | refine LeO.bind ?_ (fun _ => ?_)
  ·intro y0 y1 y2 y3 y4 y5
   unfold a_c.j2
   repeat' first
   | (with_reducible exact ih0 _)
   | (with_reducible exact ih1 _ _ _)
   | (with_reducible exact ih2 _ _ _ _)
   | (with_reducible exact ih3 _ _ _ _ _ _ _ _)
   | (with_reducible exact ih4 _ _ _ _ _ _)
   | (with_reducible exact ih5 _ _ _ _ _ _ _)
   | (with_reducible exact a_w.mono _)
   | (with_reducible exact a_g.mono _ _ _ _)
   | (with_reducible exact a_p.mono _ _ _)
   | (with_reducible exact a_T.mono _ _)
   | (with_reducible exact a_o.mono _ _ _ _)
   | (with_reducible exact LeO.refl _)
   | (with_reducible exact LeO.none _)
   | (with_reducible refine LeO.ite ?_ ?_)
   | (with_reducible refine LeO.bind ?_ (fun _ => ?_))
   | exact ih0 _
   | exact ih1 _ _ _
   | exact ih2 _ _ _ _
   | exact ih3 _ _ _ _ _ _ _ _
   | exact ih4 _ _ _ _ _ _
   | exact ih5 _ _ _ _ _ _ _
   | exact a_w.mono _
   | exact a_g.mono _ _ _ _
   | exact a_p.mono _ _ _
   | exact a_T.mono _ _
   | exact a_o.mono _ _ _ _
   | exact LeO.none _
   | refine LeO.ite ?_ ?_
   | refine LeO.bind ?_ (fun _ => ?_)
  ·intro y0 y1 y2 y3 y4 y5 y6
   unfold a_c.l1
   repeat' first
   | (with_reducible exact ih0 _)
   | (with_reducible exact ih1 _ _ _)
   | (with_reducible exact ih2 _ _ _ _)
   | (with_reducible exact ih3 _ _ _ _ _ _ _ _)
   | (with_reducible exact ih4 _ _ _ _ _ _)
   | (with_reducible exact ih5 _ _ _ _ _ _ _)
   | (with_reducible exact a_w.mono _)
   | (with_reducible exact a_g.mono _ _ _ _)
   | (with_reducible exact a_p.mono _ _ _)
   | (with_reducible exact a_T.mono _ _)
   | (with_reducible exact a_o.mono _ _ _ _)
   | (with_reducible exact LeO.refl _)
   | (with_reducible exact LeO.none _)
   | (with_reducible refine LeO.ite ?_ ?_)
   | (with_reducible refine LeO.bind ?_ (fun _ => ?_))
   | exact ih0 _
   | exact ih1 _ _ _
   | exact ih2 _ _ _ _
   | exact ih3 _ _ _ _ _ _ _ _
   | exact ih4 _ _ _ _ _ _
   | exact ih5 _ _ _ _ _ _ _
   | exact a_w.mono _
   | exact a_g.mono _ _ _ _
   | exact a_p.mono _ _ _
   | exact a_T.mono _ _
   | exact a_o.mono _ _ _ _
   | exact LeO.none _
   | refine LeO.ite ?_ ?_
   | refine LeO.bind ?_ (fun _ => ?_)
theorem a_c.mono : ∀ a0 a1 k,LeO (a_c.f k a0 a1) (a_c.f (k + 1) a0 a1):=by
 intro a0 a1 k
 obtain ⟨ih0,ih1,ih2,ih3,ih4,ih5⟩:=a_c.b_4 k
 unfold a_c.f
 repeat' first
  | (with_reducible exact ih0 _)
  | (with_reducible exact ih1 _ _ _)
  | (with_reducible exact ih2 _ _ _ _)
  | (with_reducible exact ih3 _ _ _ _ _ _ _ _)
  | (with_reducible exact ih4 _ _ _ _ _ _)
  | (with_reducible exact ih5 _ _ _ _ _ _ _)
  | (with_reducible exact a_w.mono _)
  | (with_reducible exact a_g.mono _ _ _ _)
  | (with_reducible exact a_p.mono _ _ _)
  | (with_reducible exact a_T.mono _ _)
  | (with_reducible exact a_o.mono _ _ _ _)
  | (with_reducible exact LeO.refl _)
  | (with_reducible exact LeO.none _)
  | (with_reducible refine LeO.ite ?_ ?_)
  | (with_reducible refine LeO.bind ?_ (fun _ => ?_))
  | exact ih0 _
  | exact ih1 _ _ _
  | exact ih2 _ _ _ _
  | exact ih3 _ _ _ _ _ _ _ _
  | exact ih4 _ _ _ _ _ _
  | exact ih5 _ _ _ _ _ _ _
  | exact a_w.mono _
  | exact a_g.mono _ _ _ _
  | exact a_p.mono _ _ _
  | exact a_T.mono _ _
  | exact a_o.mono _ _ _ _
  | exact LeO.none _
  | refine LeO.ite ?_ ?_
  | refine LeO.bind ?_ (fun _ => ?_)
set_option maxHeartbeats 8000000 in
set_option maxRecDepth 100000 in
theorem a_c.calls (k : Nat) (A0 : Option Addr) (c0 : Nat) (l0 : List Int) (A1 : Option Addr) (c1 : Nat) (l1 : List (S57)) (r : Bool) (w : World) (hr0 : Kd.C (Kd.int .i64) w A0 l0.length l0) (hc0 : l0.length ≤ c0) (hr1 : Kd.C k57 w A1 l1.length l1) (hc1 : l1.length ≤ c1) (ht : b_Y w) (h : a_c.f k l0 l1 = some r) :
 Calls Tryd.prog 5 #[.slice A0 l0.length c0,.slice A1 l1.length c1] w fun e w' => e = .returned (.bool r) ∧ Below w.heap.size w w':=by
 have hu24:=Tryd.underlying24
 have hu56:=Tryd.underlying56
 have hu57:=Tryd.underlying57
 have HTAB_:=a_b.mk ht
 clear ht
 have HR0:=a_b.mk hr0
 have HC0:=a_b.mk hc0
 clear hr0 hc0
 have HR1:=a_b.mk hr1
 have HC1:=a_b.mk hc1
 clear hr1 hc1
 have HB:=a_b.mk (Below.refl w.heap.size w)
 have H : ((a_w.f k).bind fun t295 => (if t295 = true then (a_c.l0 k l1 l0 (l0.length : Int) 0) else (some false))) = some r:=h
 clear h
 replace H:=Option.bind_eq_some_iff.mp H
 obtain ⟨t295,A30,H⟩:=H
 replace H : (if t295 = true then (a_c.l0 k l1 l0 (l0.length : Int) 0) else (some false)) = some r:=H
 have A3:=a_b.mk A30
 clear A30
 by_cases c4 : t295 = true
 rotate_left
 ·replace c4:=Bool.eq_false_iff.mpr c4
  subst c4
  have H1 : (some false) = some r:=by rw [if_neg (show ¬ (false = true) by decide)] at H;exact H
  clear H
  have H:=H1
  clear H1
  obtain rfl:=Option.some.inj H
  go_enter Tryd.func5,Tryd.ntmps5
  go_wp2_with (first|((with_reducible refine a_y (f:=10) rfl ?_);refine a_V (some 17) rfl rfl Tryd.func10 (by kernel_rfl) rfl #[] rfl (by (try simp only [List.map_toArray,List.map_cons,List.map_nil]);first|done|rfl|(simp only [List.length_drop,List.length_take];rfl)) ?_;(with_reducible refine (a_w.calls k  false _ ?side1 A3.out).mono ?_);(case side1 => exact b_Y.below HTAB_.out (lup_ HB.out));rintro e w145 ⟨rfl,hb⟩;refine ⟨_,rfl,?_⟩;replace HB:=a_b.mk (a_n (lup_ HB.out) hb);(try clear hb);(try clear hb2);(try clear hk);(try clear hi)))
  go_ret
  exact ⟨by first|rfl|(simp [a_s,a_t] <;> rfl)|(simp [*, a_s,a_t] <;> rfl),by repeat (first|(with_reducible first|exact HB.out|apply a_e|apply a_a|apply a_f)|exact HB.out)⟩
 subst c4
 have H1 : (a_c.l0 k l1 l0 (l0.length : Int) 0) = some r:=by rw [if_pos rfl] at H;exact H
 clear H
 have H:=H1
 clear H1
 have HC5:=a_b.mk H
 clear H
 go_enter Tryd.func5,Tryd.ntmps5
 go_upto_block 0 with (first|((with_reducible refine a_y (f:=10) rfl ?_);refine a_V (some 17) rfl rfl Tryd.func10 (by kernel_rfl) rfl #[] rfl (by (try simp only [List.map_toArray,List.map_cons,List.map_nil]);first|done|rfl|(simp only [List.length_drop,List.length_take];rfl)) ?_;(with_reducible refine (a_w.calls k  true _ ?side1 A3.out).mono ?_);(case side1 => exact b_Y.below HTAB_.out (lup_ HB.out));rintro e w6 ⟨rfl,hb⟩;refine ⟨_,rfl,?_⟩;replace HB:=a_b.mk (a_n (lup_ HB.out) hb);(try clear hb);(try clear hb2);(try clear hk);(try clear hi)))
 (try simp only [Act.put,sa_,sb_,sc_])
 go_cut [] (fun wc => ∃ (kq : Nat),a_b (a_c.j4 kq l1 = some r) ∧ a_b (kq ≤ k) ∧ a_b (Below w.heap.size w wc))
 case first =>
  have H:=HC5.out
  clear HC5
  have H':=a_b.mk H
  clear H
  go_wp2
  go_loopg [21] k (fun kq v21 w' => ∃ (x21_1 : Int),v21 = .int .i64 x21_1 ∧ a_b (a_c.l0 kq l1 l0 (l0.length : Int) x21_1 = some r) ∧ a_b (kq ≤ k) ∧ a_b (Below w.heap.size w w'))
  case atStart => exact ⟨(0),(by first|rfl|(simp;done)|(simp [*];done)),H',⟨Nat.le_refl _⟩,⟨by repeat (first|(with_reducible first|exact HB.out|apply a_e|apply a_a|apply a_f)|exact HB.out)⟩⟩
  case round =>
   clear H'
   try clear c1
   try clear p2
   try clear c4
   try clear c5
   obtain ⟨x21_1,rfl,HA,HK1,HB⟩:=hrel
   cases gk with
   | zero => exact absurd HA.out (by simp [a_c.l0])
   | succ k1 =>
    have H:=HA.out
    clear HA
    simp only [a_c.l0] at H
    by_cases c7 : x21_1 < (l0.length : Int)
    rotate_left
    ·rw [if_neg c7] at H
     have c7b0 : decide (x21_1 < (l0.length : Int)) = false:=decide_eq_false c7
     clear c7
     (first|rw [c7b0]|(simp only [c_l,c_k];rw [c7b0])|skip)
     have H':=a_b.mk H
     clear H
     go_wp2
     go_meet
     case rel => exact ⟨_,H',⟨by have:=HK1.out;first|omega|exact Nat.le_refl _⟩,⟨by repeat (first|(with_reducible first|exact HB.out|apply a_e|apply a_a|apply a_f)|exact HB.out)⟩⟩
    rw [if_pos c7] at H
    have c7b0 : decide (x21_1 < (l0.length : Int)) = true:=decide_eq_true c7
    clear c7
    (first|rw [c7b0]|(simp only [c_l,c_k];rw [c7b0])|skip)
    by_cases c8 : 0 ≤ x21_1
    rotate_left
    ·rw [if_neg c8] at H
     exact absurd H (by simp)
    rw [if_pos c8] at H
    have c8b0 : decide (0 ≤ x21_1) = true:=decide_eq_true c8
    clear c8
    by_cases c9 : x21_1 < (l0.length : Int)
    rotate_left
    ·rw [if_neg c9] at H
     exact absurd H (by simp)
    rw [if_pos c9] at H
    have c9b0 : decide (x21_1 < (l0.length : Int)) = true:=decide_eq_true c9
    clear c9
    by_cases c10 : x21_1 = 20
    ·rw [if_pos c10] at H
     have c10b0 : (x21_1 == 20) = true:=beq_iff_eq.mpr c10
     have c10b1 : (x21_1 != 20) = false:=bne_eq_false_iff_eq.mpr c10
     clear c10
     have H':=a_b.mk H
     clear H
     have p296 : 0 ≤ (x21_1 : Int):=of_decide_eq_true (by first|(with_reducible assumption)|assumption)
     have q296 : x21_1 < (l0.length : Int):=of_decide_eq_true (by first|(with_reducible assumption)|assumption)
     obtain ⟨ad296,e296,c_j⟩:=Kd.e_m HR0.out x21_1 p296 q296
     cases e296
     replace c_j:=(HB.out.cell (World.block_lt_of_cell? w _ c_j)).trans c_j
     replace p296:=eq_true p296
     replace q296:=eq_true q296
     go_wp2
     go_meet
     case rel => exact ⟨_,H',⟨by have:=HK1.out;first|omega|exact Nat.le_refl _⟩,⟨by repeat (first|(with_reducible first|exact HB.out|apply a_e|apply a_a|apply a_f)|exact HB.out)⟩⟩
    rw [if_neg c10] at H
    have c10b0 : (x21_1 == 20) = false:=beq_eq_false_iff_ne.mpr c10
    have c10b1 : (x21_1 != 20) = true:=bne_iff_ne.mpr c10
    replace H:=Option.bind_eq_some_iff.mp H
    obtain ⟨⟨t297,t300⟩,A110,H⟩:=H
    replace H : (if (rd l0 x21_1) < 1 then (a_c.j1 k1 l1 (rd l0 x21_1) t300 l0 (l0.length : Int) x21_1 true t297) else (a_c.j1 k1 l1 (rd l0 x21_1) t300 l0 (l0.length : Int) x21_1 (decide ((rd l0 x21_1) > 8)) t297)) = some r:=H
    have A11:=a_b.mk A110
    clear A110
    have HC12:=a_b.mk H
    clear H
    have p296 : 0 ≤ (x21_1 : Int):=of_decide_eq_true (by first|(with_reducible assumption)|assumption)
    have q296 : x21_1 < (l0.length : Int):=of_decide_eq_true (by first|(with_reducible assumption)|assumption)
    obtain ⟨ad296,e296,c_j⟩:=Kd.e_m HR0.out x21_1 p296 q296
    cases e296
    replace c_j:=(HB.out.cell (World.block_lt_of_cell? w _ c_j)).trans c_j
    replace p296:=eq_true p296
    replace q296:=eq_true q296
    go_upto_region 8 with (first|((with_reducible refine a_y (f:=25) rfl ?_);refine a_V (some 30) rfl rfl Tryd.func25 (by kernel_rfl) rfl #[.int .i64 (rd l0 x21_1)] rfl (by (try simp only [List.map_toArray,List.map_cons,List.map_nil]);first|done|rfl|(simp only [List.length_drop,List.length_take];rfl)) ?_;(with_reducible refine (a_T.calls k1 (rd l0 x21_1) t297 t300 _ A11.out).mono ?_);rintro e w13 ⟨v298,rfl,ho0,hb⟩;refine ⟨_,rfl,?_⟩;have f_6:=a_b.mk (Kd.a_3 ho0 (a_h (lup_ HB.out)));replace HB:=a_b.mk (a_n (lup_ HB.out) hb);(try clear hb);(try clear hb2);(try clear hk);(try clear hi);(try clear ho0))|((with_reducible refine a_z (N:=7) rfl ?_);(try (refine a_B (by rfl) ?_;dsimp only));refine a_x ?hg (N:=7) ?hd (cs:=#[.slice none 0 0]) (t:=24) ?hr ?_;(case hd => rfl);(case hg => rfl);(case hr => first|(go_simp;done)|(go_simp;rfl));intro c_Y hg w14 hbox hb;have b_8:=a_b.mk (hbox);have m_y:=a_b.mk ((by rw [hg];exact (a_h (lup_ HB.out)) : w.heap.size ≤ c_Y));have c_M:=a_b.mk ((by rw [hg];exact (a_h (lup_ HB.out)) : w.heap.size ≤ c_Y));replace f_6:=a_b.mk (Kd.a_F (rup_ f_6.out) hb);replace HB:=a_b.mk (a_n (lup_ HB.out) hb);clear hb hbox hg;obtain ⟨Ao15,co15,eo15⟩:=Kd.a_4 f_6.out;subst eo15;have c_H : w14.cell? ⟨c_Y,0,none⟩ = some (.slice none 0 0):=(a_l b_8.out 0).trans rfl;have c_I:=a_i b_8.out 0))
    (try simp only [Act.put,sa_,sb_,sc_])
    go_cut [38] (fun v38 wc => ∃ (kq : Nat) (x38_11 : Bool),v38 = .bool x38_11 ∧ a_b (a_c.j1 kq l1 (rd l0 x21_1) t300 l0 (l0.length : Int) x21_1 x38_11 t297 = some r) ∧ a_b (kq ≤ k1) ∧ a_b (Kd.R k56 56 wc w.heap.size (fun _ => True) (.slice Ao15 t297.length co15) t297) ∧ a_b (wc.heap[c_Y]? = some (.cells #[(.slice Ao15 t297.length co15)] 24 (0,0))) ∧ a_b (Below w.heap.size w wc))
    case first =>
     have H:=HC12.out
     clear HC12
     by_cases c17 : (rd l0 x21_1) < 1
     ·rw [if_pos c17] at H
      have c17b0 : decide ((rd l0 x21_1) < 1) = true:=decide_eq_true c17
      clear c17
      (first|rw [c17b0]|(simp only [c_l,c_k];rw [c17b0])|skip)
      have H':=a_b.mk H
      clear H
      go_wp2
      go_meet
      case rel => exact ⟨_,(true),(by first|rfl|(simp;done)|(simp [*];done)),H',⟨by have:=HK1.out;first|omega|exact Nat.le_refl _⟩,⟨by (with_reducible repeat (first|apply Kd.a_I|apply Kd.a_J|apply Kd.a_N));exact Kd.a_O (Kd.b_g (p:=⟨c_Y,0,none⟩) (Kd.a_L f_6.out b_8.out (by decide)) (fun _ hk => hk.2) (.slice Ao15 t297.length co15)) (fun _ hk => trivial)⟩,⟨by (with_reducible repeat (first|refine a_k ?_ _|refine a_m ?_|refine a_j ?_ _));refine a_K (cs:=#[.slice none 0 0]) ?_ 0 _ rfl;(with_reducible repeat (first|refine a_k ?_ _|refine a_m ?_|refine a_j ?_ _));exact b_8.out⟩,⟨by repeat (first|(with_reducible first|exact HB.out|apply a_e|apply a_a|apply a_f|refine a_d ?_ c_M.out)|exact HB.out)⟩⟩
     rw [if_neg c17] at H
     have c17b0 : decide ((rd l0 x21_1) < 1) = false:=decide_eq_false c17
     clear c17
     (first|rw [c17b0]|(simp only [c_l,c_k];rw [c17b0])|skip)
     have H':=a_b.mk H
     clear H
     go_wp2
     go_meet
     case rel => exact ⟨_,(decide ((rd l0 x21_1) > 8)),(by first|rfl|(simp;done)|(simp [*];done)),H',⟨by have:=HK1.out;first|omega|exact Nat.le_refl _⟩,⟨by (with_reducible repeat (first|apply Kd.a_I|apply Kd.a_J|apply Kd.a_N));exact Kd.a_O (Kd.b_g (p:=⟨c_Y,0,none⟩) (Kd.a_L f_6.out b_8.out (by decide)) (fun _ hk => hk.2) (.slice Ao15 t297.length co15)) (fun _ hk => trivial)⟩,⟨by (with_reducible repeat (first|refine a_k ?_ _|refine a_m ?_|refine a_j ?_ _));refine a_K (cs:=#[.slice none 0 0]) ?_ 0 _ rfl;(with_reducible repeat (first|refine a_k ?_ _|refine a_m ?_|refine a_j ?_ _));exact b_8.out⟩,⟨by repeat (first|(with_reducible first|exact HB.out|apply a_e|apply a_a|apply a_f|refine a_d ?_ c_M.out)|exact HB.out)⟩⟩
    case rest =>
     clear HC12
     try clear c1
     try clear c2
     try clear p2
     try clear q2
     try clear hx2
     try clear c4
     try clear c5
     try clear c7
     try clear c7b0
     try clear c8
     try clear c8b0
     try clear c9
     try clear c9b0
     try clear c10
     try clear c10b0
     try clear c10b1
     try clear c17
     try clear c17b0
     try clear c_H
     try clear c_I
     try clear c_j
     try clear p2
     try clear p296
     try clear q296
     obtain ⟨kq,x38_11,rfl,HA,HJ11,b_Q,b_8,HB⟩:=hcut
     cases kq with
     | zero => exact absurd HA.out (by simp [a_c.j1])
     | succ kj11 =>
      have H:=HA.out
      clear HA
      simp only [a_c.j1] at H
      by_cases c18 : x38_11 = true
      ·subst c18
       have H1 : (if t300 = 2 then (if (t297.length : Int) = 0 then (a_c.l0 kj11 l1 l0 (l0.length : Int) (wrap64 (x21_1 + 1))) else (some false)) else (some false)) = some r:=by rw [if_pos rfl] at H;exact H
       clear H
       have H:=H1
       clear H1
       by_cases c19 : t300 = 2
       rotate_left
       ·rw [if_neg c19] at H
        have c19b0 : (t300 == 2) = false:=beq_eq_false_iff_ne.mpr c19
        have c19b1 : (t300 != 2) = true:=bne_iff_ne.mpr c19
        obtain rfl:=Option.some.inj H
        go_wp2
        go_ret
        exact ⟨by first|rfl|(simp [a_s,a_t] <;> rfl)|(simp [*, a_s,a_t] <;> rfl),by repeat (first|(with_reducible first|exact HB.out|apply a_e|apply a_a|apply a_f|refine a_d ?_ c_M.out)|exact HB.out)⟩
       rw [if_pos c19] at H
       have c19b0 : (t300 == 2) = true:=beq_iff_eq.mpr c19
       have c19b1 : (t300 != 2) = false:=bne_eq_false_iff_eq.mpr c19
       clear c19
       by_cases c20 : (t297.length : Int) = 0
       ·rw [if_pos c20] at H
        have c20b0 : ((t297.length : Int) == 0) = true:=beq_iff_eq.mpr c20
        have c20b1 : ((t297.length : Int) != 0) = false:=bne_eq_false_iff_eq.mpr c20
        clear c20
        have H':=a_b.mk H
        clear H
        have d_x : wc.cell? ⟨c_Y,0,none⟩ = some (.slice Ao15 t297.length co15):=(a_l b_8.out 0).trans rfl
        have d_z:=a_i b_8.out 0
        go_wp2
        go_roundg kj11
        case measure => have:=HK1.out;have:=HJ11.out;omega
        case rel => exact ⟨(wrap64 (x21_1 + 1)),(by first|rfl|(simp;done)|(simp [*];done)),H',⟨by have:=HK1.out;have:=HJ11.out;omega⟩,⟨by repeat (first|(with_reducible first|exact HB.out|apply a_e|apply a_a|apply a_f|refine a_d ?_ c_M.out)|exact HB.out)⟩⟩
       rw [if_neg c20] at H
       have c20b0 : ((t297.length : Int) == 0) = false:=beq_eq_false_iff_ne.mpr c20
       have c20b1 : ((t297.length : Int) != 0) = true:=bne_iff_ne.mpr c20
       have c20b2 : ¬ (t297 = []):=fun h_ => c20 (by rw [h_];rfl)
       obtain rfl:=Option.some.inj H
       have d_b : wc.cell? ⟨c_Y,0,none⟩ = some (.slice Ao15 t297.length co15):=(a_l b_8.out 0).trans rfl
       have d_e:=a_i b_8.out 0
       go_wp2
       go_ret
       exact ⟨by first|rfl|(simp [a_s,a_t] <;> rfl)|(simp [*, a_s,a_t] <;> rfl),by repeat (first|(with_reducible first|exact HB.out|apply a_e|apply a_a|apply a_f|refine a_d ?_ c_M.out)|exact HB.out)⟩
      replace c18:=Bool.eq_false_iff.mpr c18
      subst c18
      have H1 : (if t300 = 0 then (a_c.j2 kj11 l1 l0 (l0.length : Int) x21_1 ((t297.length : Int) != (rd l0 x21_1)) t297) else (a_c.j2 kj11 l1 l0 (l0.length : Int) x21_1 true t297)) = some r:=by rw [if_neg (show ¬ (false = true) by decide)] at H;exact H
      clear H
      have H:=H1
      clear H1
      have HC23:=a_b.mk H
      clear H
      go_upto_region 11 with (fail)
      go_cut [55] (fun v55 wc => ∃ (kq : Nat) (x55_22 : Bool),v55 = .bool x55_22 ∧ a_b (a_c.j2 kq l1 l0 (l0.length : Int) x21_1 x55_22 t297 = some r) ∧ a_b (kq ≤ kj11) ∧ a_b (Kd.R k56 56 wc w.heap.size (fun _ => True) (.slice Ao15 t297.length co15) t297) ∧ a_b (wc.heap[c_Y]? = some (.cells #[(.slice Ao15 t297.length co15)] 24 (0,0))) ∧ a_b (Below w.heap.size w wc))
      case first =>
       have H:=HC23.out
       clear HC23
       by_cases c24 : t300 = 0
       rotate_left
       ·rw [if_neg c24] at H
        have c24b0 : (t300 == 0) = false:=beq_eq_false_iff_ne.mpr c24
        have c24b1 : (t300 != 0) = true:=bne_iff_ne.mpr c24
        (first|rw [c24b0]|(simp only [c_l,c_k];rw [c24b0])|skip)
        have H':=a_b.mk H
        clear H
        go_wp2
        go_meet
        case rel => exact ⟨_,(true),(by first|rfl|(simp;done)|(simp [*];done)),H',⟨by have:=HK1.out;have:=HJ11.out;first|omega|exact Nat.le_refl _⟩,⟨by (with_reducible repeat (first|apply Kd.a_I|apply Kd.a_J|apply Kd.a_N));exact b_Q.out⟩,⟨by (with_reducible repeat (first|refine a_k ?_ _|refine a_m ?_|refine a_j ?_ _));exact b_8.out⟩,⟨by repeat (first|(with_reducible first|exact HB.out|apply a_e|apply a_a|apply a_f|refine a_d ?_ c_M.out)|exact HB.out)⟩⟩
       rw [if_pos c24] at H
       have c24b0 : (t300 == 0) = true:=beq_iff_eq.mpr c24
       have c24b1 : (t300 != 0) = false:=bne_eq_false_iff_eq.mpr c24
       clear c24
       (first|rw [c24b0]|(simp only [c_l,c_k];rw [c24b0])|skip)
       have H':=a_b.mk H
       clear H
       have d_c : wc.cell? ⟨c_Y,0,none⟩ = some (.slice Ao15 t297.length co15):=(a_l b_8.out 0).trans rfl
       have d_f:=a_i b_8.out 0
       go_wp2
       go_meet
       case rel => exact ⟨_,(((t297.length : Int) != (rd l0 x21_1))),(by first|rfl|(simp;done)|(simp [*];done)),H',⟨by have:=HK1.out;have:=HJ11.out;first|omega|exact Nat.le_refl _⟩,⟨by (with_reducible repeat (first|apply Kd.a_I|apply Kd.a_J|apply Kd.a_N));exact b_Q.out⟩,⟨by (with_reducible repeat (first|refine a_k ?_ _|refine a_m ?_|refine a_j ?_ _));exact b_8.out⟩,⟨by repeat (first|(with_reducible first|exact HB.out|apply a_e|apply a_a|apply a_f|refine a_d ?_ c_M.out)|exact HB.out)⟩⟩
      case rest =>
       clear HC23
       try clear c1
       try clear c2
       try clear p2
       try clear q2
       try clear hx2
       try clear c4
       try clear c5
       try clear p6
       try clear c7
       try clear c7b0
       try clear c8
       try clear c8b0
       try clear c9
       try clear c9b0
       try clear c10
       try clear c10b0
       try clear c10b1
       try clear c17
       try clear c17b0
       try clear c18
       try clear c19
       try clear c19b0
       try clear c19b1
       try clear c20
       try clear c20b0
       try clear c20b1
       try clear c20b2
       try clear c24
       try clear c24b0
       try clear c24b1
       try clear c25
       try clear c_H
       try clear d_x
       try clear d_b
       try clear d_c
       try clear c_I
       try clear d_z
       try clear d_e
       try clear d_f
       try clear c_j
       try clear p2
       try clear p296
       try clear q2
       try clear q296
       obtain ⟨kq,x55_22,rfl,HA,HJ22,b_Q,b_8,HB⟩:=hcut
       cases kq with
       | zero => exact absurd HA.out (by simp [a_c.j2])
       | succ kj22 =>
        have H:=HA.out
        clear HA
        simp only [a_c.j2] at H
        by_cases c26 : x55_22 = true
        ·subst c26
         have H1 : (some false) = some r:=by rw [if_pos rfl] at H;exact H
         clear H
         have H:=H1
         clear H1
         obtain rfl:=Option.some.inj H
         go_wp2
         go_ret
         exact ⟨by first|rfl|(simp [a_s,a_t] <;> rfl)|(simp [*, a_s,a_t] <;> rfl),by repeat (first|(with_reducible first|exact HB.out|apply a_e|apply a_a|apply a_f|refine a_d ?_ c_M.out)|exact HB.out)⟩
        replace c26:=Bool.eq_false_iff.mpr c26
        subst c26
        have H1 : (a_c.l1 kj22 l1 l0 (l0.length : Int) x21_1 t297 (t297.length : Int) 0) = some r:=by rw [if_neg (show ¬ (false = true) by decide)] at H;exact H
        clear H
        have H:=H1
        clear H1
        have H':=a_b.mk H
        clear H
        have d_Z : wc.cell? ⟨c_Y,0,none⟩ = some (.slice Ao15 t297.length co15):=(a_l b_8.out 0).trans rfl
        have d_0:=a_i b_8.out 0
        go_wp2
        go_loopg [59] kj22 (fun kq v59 w' => ∃ (x59_4 : Int),v59 = .int .i64 x59_4 ∧ a_b (a_c.l1 kq l1 l0 (l0.length : Int) x21_1 t297 (t297.length : Int) x59_4 = some r) ∧ a_b (kq ≤ kj22) ∧ a_b (Kd.R k56 56 w' w.heap.size (fun _ => True) (.slice Ao15 t297.length co15) t297) ∧ a_b (Kd.R k56 56 w' w.heap.size (fun _ => True) (.slice Ao15 t297.length co15) t297) ∧ a_b (w'.heap[c_Y]? = some (.cells #[(.slice Ao15 t297.length co15)] 24 (0,0))) ∧ a_b (Below w.heap.size w w'))
        case atStart => exact ⟨(0),(by first|rfl|(simp;done)|(simp [*];done)),H',⟨Nat.le_refl _⟩,⟨by (with_reducible repeat (first|apply Kd.a_I|apply Kd.a_J|apply Kd.a_N));exact b_Q.out⟩,⟨by (with_reducible repeat (first|apply Kd.a_I|apply Kd.a_J|apply Kd.a_N));exact b_Q.out⟩,⟨by (with_reducible repeat (first|refine a_k ?_ _|refine a_m ?_|refine a_j ?_ _));exact b_8.out⟩,⟨by repeat (first|(with_reducible first|exact HB.out|apply a_e|apply a_a|apply a_f|refine a_d ?_ c_M.out)|exact HB.out)⟩⟩
        case round =>
         clear H'
         try clear c1
         try clear c2
         try clear p2
         try clear q2
         try clear hx2
         try clear c4
         try clear c5
         try clear p6
         try clear c7
         try clear c7b0
         try clear c8
         try clear c8b0
         try clear c9
         try clear c9b0
         try clear c10
         try clear c10b0
         try clear c10b1
         try clear c17
         try clear c17b0
         try clear c18
         try clear c19
         try clear c19b0
         try clear c19b1
         try clear c20
         try clear c20b0
         try clear c20b1
         try clear c20b2
         try clear c24
         try clear c24b0
         try clear c24b1
         try clear c25
         try clear c26
         try clear c_H
         try clear d_x
         try clear d_b
         try clear d_c
         try clear d_Z
         try clear c_I
         try clear d_z
         try clear d_e
         try clear d_f
         try clear d_0
         try clear c_j
         try clear p2
         try clear p296
         try clear p6
         try clear q2
         try clear q296
         obtain ⟨x59_4,rfl,HA,HK4,e_8,b_Q,b_8,HB⟩:=hrel
         cases gk with
         | zero => exact absurd HA.out (by simp [a_c.l1])
         | succ k4 =>
          have H:=HA.out
          clear HA
          simp only [a_c.l1] at H
          by_cases c28 : x59_4 < (t297.length : Int)
          rotate_left
          ·rw [if_neg c28] at H
           have c28b0 : decide (x59_4 < (t297.length : Int)) = false:=decide_eq_false c28
           clear c28
           have H':=a_b.mk H
           clear H
           go_wp2
           go_roundg k4
           case measure => have:=HK1.out;have:=HJ11.out;have:=HJ22.out;have:=HK4.out;omega
           case rel => exact ⟨(wrap64 (x21_1 + 1)),(by first|rfl|(simp;done)|(simp [*];done)),H',⟨by have:=HK1.out;have:=HJ11.out;have:=HJ22.out;have:=HK4.out;omega⟩,⟨by repeat (first|(with_reducible first|exact HB.out|apply a_e|apply a_a|apply a_f|refine a_d ?_ c_M.out)|exact HB.out)⟩⟩
          rw [if_pos c28] at H
          have c28b0 : decide (x59_4 < (t297.length : Int)) = true:=decide_eq_true c28
          clear c28
          by_cases c29 : 0 ≤ x59_4
          rotate_left
          ·rw [if_neg c29] at H
           exact absurd H (by simp)
          rw [if_pos c29] at H
          have c29b0 : decide (0 ≤ x59_4) = true:=decide_eq_true c29
          clear c29
          by_cases c30 : x59_4 < (t297.length : Int)
          rotate_left
          ·rw [if_neg c30] at H
           exact absurd H (by simp)
          rw [if_pos c30] at H
          have c30b0 : decide (x59_4 < (t297.length : Int)) = true:=decide_eq_true c30
          clear c30
          by_cases c31 : (!(((a_u t297 x59_4).f0) == 0) || (!(((a_u t297 x59_4).f1) == x59_4))) = true
          ·rw [if_pos c31] at H
           have c31b0 : (!(((a_u t297 x59_4).f0) == 0) || (!(((a_u t297 x59_4).f1) == x59_4))) = true:=c31
           clear c31
           obtain rfl:=Option.some.inj H
           have p302 : 0 ≤ (x59_4 : Int):=of_decide_eq_true (by first|(with_reducible assumption)|assumption)
           have q302 : x59_4 < (t297.length : Int):=of_decide_eq_true (by first|(with_reducible assumption)|assumption)
           obtain ⟨ad302,e302,f_p,f_q⟩:=c_u (Kd.a_D e_8.out).2.2 x59_4 p302 q302
           cases e302
           replace p302:=eq_true p302
           replace q302:=eq_true q302
           go_wp2_with (first|((with_reducible refine a_z (N:=10) rfl ?_);(try (refine a_B (by rfl) ?_;dsimp only));refine a_x ?hg (N:=10) ?hd (cs:=#[.int .i64 0,.int .i64 0]) (t:=56) ?hr ?_;(case hd => rfl);(case hg => rfl);(case hr => first|(go_simp;done)|(go_simp;rfl));intro c_v hg w32 hbox hb;have e_v:=a_b.mk (hbox);have j_N:=a_b.mk ((by rw [hg];exact (a_h (by repeat (first|(with_reducible first|exact HB.out|apply a_e|apply a_a|apply a_f|refine a_d ?_ c_M.out)|exact HB.out))) : w.heap.size ≤ c_v));have h_D:=a_b.mk ((by rw [hg];exact (a_h (by repeat (first|(with_reducible first|exact HB.out|apply a_e|apply a_a|apply a_f|refine a_d ?_ c_M.out)|exact HB.out))) : w.heap.size ≤ c_v));have c_P:=a_b.mk ((by rw [hg];exact Nat.ne_of_lt (a_E (bup_ b_8.out)) : c_Y ≠ c_v));have d_R:=a_b.mk ((by rw [hg];exact Nat.ne_of_gt (a_E (bup_ b_8.out)) : c_v ≠ c_Y));replace e_8:=a_b.mk (Kd.a_F (Kd.d_O (rup_ e_8.out) c_v (Nat.le_of_eq hg.symm)) hb);replace b_Q:=a_b.mk (Kd.a_F (Kd.d_O (rup_ b_Q.out) c_v (Nat.le_of_eq hg.symm)) hb);replace b_8:=a_b.mk (a_q (bup_ b_8.out) hb);replace HB:=a_b.mk (a_n (by repeat (first|(with_reducible first|exact HB.out|apply a_e|apply a_a|apply a_f|refine a_d ?_ c_M.out)|exact HB.out)) hb);clear hb hbox hg;have l_O:=d_R.out;have l_U:=c_P.out;have f_j : w32.cell? ⟨c_v,0,none⟩ = some (.int .i64 0):=(a_l e_v.out 0).trans rfl;have g_u : w32.cell? ⟨c_v,1,none⟩ = some (.int .i64 0):=(a_l e_v.out 1).trans rfl;have f_n:=a_i e_v.out 0;have g_B:=a_i e_v.out 1))
           go_ret
           exact ⟨by first|rfl|(simp [a_s,a_t] <;> rfl)|(simp [*, a_s,a_t] <;> rfl),by repeat (first|(with_reducible first|exact HB.out|apply a_e|apply a_a|apply a_f|refine a_d ?_ c_M.out|refine a_d ?_ h_D.out)|exact HB.out)⟩
          rw [if_neg c31] at H
          have c31b0 : (!(((a_u t297 x59_4).f0) == 0) || (!(((a_u t297 x59_4).f1) == x59_4))) = false:=by simpa using c31
          clear c31
          have H':=a_b.mk H
          clear H
          have p302 : 0 ≤ (x59_4 : Int):=of_decide_eq_true (by first|(with_reducible assumption)|assumption)
          have q302 : x59_4 < (t297.length : Int):=of_decide_eq_true (by first|(with_reducible assumption)|assumption)
          obtain ⟨ad302,e302,f_p,f_q⟩:=c_u (Kd.a_D e_8.out).2.2 x59_4 p302 q302
          cases e302
          replace p302:=eq_true p302
          replace q302:=eq_true q302
          go_wp2_with (first|((with_reducible refine a_z (N:=10) rfl ?_);(try (refine a_B (by rfl) ?_;dsimp only));refine a_x ?hg (N:=10) ?hd (cs:=#[.int .i64 0,.int .i64 0]) (t:=56) ?hr ?_;(case hd => rfl);(case hg => rfl);(case hr => first|(go_simp;done)|(go_simp;rfl));intro c_v hg w35 hbox hb;have e_v:=a_b.mk (hbox);have j_N:=a_b.mk ((by rw [hg];exact (a_h (by repeat (first|(with_reducible first|exact HB.out|apply a_e|apply a_a|apply a_f|refine a_d ?_ c_M.out)|exact HB.out))) : w.heap.size ≤ c_v));have h_D:=a_b.mk ((by rw [hg];exact (a_h (by repeat (first|(with_reducible first|exact HB.out|apply a_e|apply a_a|apply a_f|refine a_d ?_ c_M.out)|exact HB.out))) : w.heap.size ≤ c_v));have c_P:=a_b.mk ((by rw [hg];exact Nat.ne_of_lt (a_E (bup_ b_8.out)) : c_Y ≠ c_v));have d_R:=a_b.mk ((by rw [hg];exact Nat.ne_of_gt (a_E (bup_ b_8.out)) : c_v ≠ c_Y));replace e_8:=a_b.mk (Kd.a_F (Kd.d_O (rup_ e_8.out) c_v (Nat.le_of_eq hg.symm)) hb);replace b_Q:=a_b.mk (Kd.a_F (Kd.d_O (rup_ b_Q.out) c_v (Nat.le_of_eq hg.symm)) hb);replace b_8:=a_b.mk (a_q (bup_ b_8.out) hb);replace HB:=a_b.mk (a_n (by repeat (first|(with_reducible first|exact HB.out|apply a_e|apply a_a|apply a_f|refine a_d ?_ c_M.out)|exact HB.out)) hb);clear hb hbox hg;have m_L:=d_R.out;have n_b:=c_P.out;have f_k : w35.cell? ⟨c_v,0,none⟩ = some (.int .i64 0):=(a_l e_v.out 0).trans rfl;have g_v : w35.cell? ⟨c_v,1,none⟩ = some (.int .i64 0):=(a_l e_v.out 1).trans rfl;have f_o:=a_i e_v.out 0;have g_C:=a_i e_v.out 1))
          go_roundg k4
          case measure => have:=HK1.out;have:=HJ11.out;have:=HJ22.out;have:=HK4.out;omega
          case rel => exact ⟨(wrap64 (x59_4 + 1)),(by first|rfl|(simp;done)|(simp [*];done)),H',⟨by have:=HK1.out;have:=HJ11.out;have:=HJ22.out;have:=HK4.out;omega⟩,⟨by (with_reducible repeat (first|apply Kd.a_I|apply Kd.a_J|apply Kd.a_N));exact Kd.a_O (Kd.b_g (p:=⟨c_v,1,none⟩) (Kd.b_g (p:=⟨c_v,0,none⟩) (Kd.a_O e_8.out (fun k_ hk => (⟨hk,hk.2⟩ : _ ∧ k_ ≠ c_v))) (fun _ hk => hk.2) (.int .i64 ((a_u t297 x59_4).f0))) (fun _ hk => hk.2) (.int .i64 ((a_u t297 x59_4).f1))) (fun _ hk => trivial)⟩,⟨by (with_reducible repeat (first|apply Kd.a_I|apply Kd.a_J|apply Kd.a_N));exact Kd.a_O (Kd.b_g (p:=⟨c_v,1,none⟩) (Kd.b_g (p:=⟨c_v,0,none⟩) (Kd.a_O b_Q.out (fun k_ hk => (⟨hk,hk.2⟩ : _ ∧ k_ ≠ c_v))) (fun _ hk => hk.2) (.int .i64 ((a_u t297 x59_4).f0))) (fun _ hk => hk.2) (.int .i64 ((a_u t297 x59_4).f1))) (fun _ hk => trivial)⟩,⟨by (with_reducible repeat (first|refine a_k ?_ _|refine a_m ?_|refine a_j ?_ _));refine a_W ?_ c_P.out _;(with_reducible repeat (first|refine a_k ?_ _|refine a_m ?_|refine a_j ?_ _));refine a_W ?_ c_P.out _;(with_reducible repeat (first|refine a_k ?_ _|refine a_m ?_|refine a_j ?_ _));exact b_8.out⟩,⟨by repeat (first|(with_reducible first|exact HB.out|apply a_e|apply a_a|apply a_f|refine a_d ?_ c_M.out|refine a_d ?_ h_D.out)|exact HB.out)⟩⟩
 case rest =>
  clear HC5
  try clear c1
  try clear c2
  try clear p2
  try clear q2
  try clear hx2
  try clear c3
  try clear p3
  try clear q3
  try clear hx3
  try clear c4
  try clear c5
  try clear p6
  try clear c7
  try clear c7b0
  try clear c8
  try clear c8b0
  try clear c9
  try clear c9b0
  try clear c10
  try clear c10b0
  try clear c10b1
  try clear c17
  try clear c17b0
  try clear c18
  try clear c19
  try clear c19b0
  try clear c19b1
  try clear c20
  try clear c20b0
  try clear c20b1
  try clear c20b2
  try clear c24
  try clear c24b0
  try clear c24b1
  try clear c25
  try clear c26
  try clear c28
  try clear c28b0
  try clear c29
  try clear c29b0
  try clear p29
  try clear q29
  try clear hx29
  try clear c30
  try clear c30b0
  try clear p30
  try clear q30
  try clear hx30
  try clear c31
  try clear c31b0
  try clear c33
  try clear c36
  try clear c_H
  try clear d_x
  try clear d_b
  try clear d_c
  try clear d_Z
  try clear f_j
  try clear g_u
  try clear f_k
  try clear g_v
  try clear c_I
  try clear d_z
  try clear d_e
  try clear d_f
  try clear d_0
  try clear f_n
  try clear g_B
  try clear f_o
  try clear g_C
  try clear c_j
  try clear f_p
  try clear f_q
  try clear p2
  try clear p296
  try clear p302
  try clear p6
  try clear q2
  try clear q296
  try clear q302
  obtain ⟨kq,HA,HJ4,HB⟩:=hcut
  cases kq with
  | zero => exact absurd HA.out (by simp [a_c.j4])
  | succ kj4 =>
   have H:=HA.out
   clear HA
   simp only [a_c.j4] at H
   have H':=a_b.mk H
   clear H
   go_wp2
   go_loopg [72] kj4 (fun kq v72 w' => ∃ (x72_2 : Int),v72 = .int .i64 x72_2 ∧ a_b (a_c.l2 kq l1 (l1.length : Int) x72_2 = some r) ∧ a_b (kq ≤ kj4) ∧ a_b (Below w.heap.size w w'))
   case atStart => exact ⟨(0),(by first|rfl|(simp;done)|(simp [*];done)),H',⟨Nat.le_refl _⟩,⟨by repeat (first|(with_reducible first|exact HB.out|apply a_e|apply a_a|apply a_f)|exact HB.out)⟩⟩
   case round =>
    clear H'
    try clear c1
    try clear c2
    try clear p2
    try clear q2
    try clear hx2
    try clear c3
    try clear p3
    try clear q3
    try clear hx3
    try clear c4
    try clear c5
    try clear p6
    try clear c7
    try clear c7b0
    try clear c8
    try clear c8b0
    try clear c9
    try clear c9b0
    try clear c10
    try clear c10b0
    try clear c10b1
    try clear c17
    try clear c17b0
    try clear c18
    try clear c19
    try clear c19b0
    try clear c19b1
    try clear c20
    try clear c20b0
    try clear c20b1
    try clear c20b2
    try clear c24
    try clear c24b0
    try clear c24b1
    try clear c25
    try clear c26
    try clear c28
    try clear c28b0
    try clear c29
    try clear c29b0
    try clear p29
    try clear q29
    try clear hx29
    try clear c30
    try clear c30b0
    try clear p30
    try clear q30
    try clear hx30
    try clear c31
    try clear c31b0
    try clear c33
    try clear c36
    try clear c_H
    try clear d_x
    try clear d_b
    try clear d_c
    try clear d_Z
    try clear f_j
    try clear g_u
    try clear f_k
    try clear g_v
    try clear c_I
    try clear d_z
    try clear d_e
    try clear d_f
    try clear d_0
    try clear f_n
    try clear g_B
    try clear f_o
    try clear g_C
    try clear c_j
    try clear f_p
    try clear f_q
    try clear p2
    try clear p29
    try clear p296
    try clear p3
    try clear p30
    try clear p302
    try clear p6
    try clear q2
    try clear q29
    try clear q296
    try clear q3
    try clear q30
    try clear q302
    obtain ⟨x72_2,rfl,HA,HK2,HB⟩:=hrel
    cases gk with
    | zero => exact absurd HA.out (by simp [a_c.l2])
    | succ k2 =>
     have H:=HA.out
     clear HA
     simp only [a_c.l2] at H
     by_cases c38 : x72_2 < (l1.length : Int)
     rotate_left
     ·rw [if_neg c38] at H
      have c38b0 : decide (x72_2 < (l1.length : Int)) = false:=decide_eq_false c38
      clear c38
      obtain rfl:=Option.some.inj H
      go_wp2
      go_ret
      exact ⟨by first|rfl|(simp [a_s,a_t] <;> rfl)|(simp [*, a_s,a_t] <;> rfl),by repeat (first|(with_reducible first|exact HB.out|apply a_e|apply a_a|apply a_f)|exact HB.out)⟩
     rw [if_pos c38] at H
     have c38b0 : decide (x72_2 < (l1.length : Int)) = true:=decide_eq_true c38
     clear c38
     by_cases c39 : 0 ≤ x72_2
     rotate_left
     ·rw [if_neg c39] at H
      exact absurd H (by simp)
     rw [if_pos c39] at H
     have c39b0 : decide (0 ≤ x72_2) = true:=decide_eq_true c39
     clear c39
     by_cases c40 : x72_2 < (l1.length : Int)
     rotate_left
     ·rw [if_neg c40] at H
      exact absurd H (by simp)
     rw [if_pos c40] at H
     have c40b0 : decide (x72_2 < (l1.length : Int)) = true:=decide_eq_true c40
     clear c40
     by_cases c41 : x72_2 = 20
     ·rw [if_pos c41] at H
      have c41b0 : (x72_2 == 20) = true:=beq_iff_eq.mpr c41
      have c41b1 : (x72_2 != 20) = false:=bne_eq_false_iff_eq.mpr c41
      clear c41
      obtain rfl:=Option.some.inj H
      have p304 : 0 ≤ (x72_2 : Int):=of_decide_eq_true (by first|(with_reducible assumption)|assumption)
      have q304 : x72_2 < (l1.length : Int):=of_decide_eq_true (by first|(with_reducible assumption)|assumption)
      obtain ⟨ad304,e304,a_8,a_9,b_a⟩:=d_V HR1.out x72_2 p304 q304
      cases e304
      replace a_8:=(HB.out.cell (World.block_lt_of_cell? w _ a_8)).trans a_8
      replace a_9:=(HB.out.cell (World.block_lt_of_cell? w _ a_9)).trans a_9
      replace b_a:=(HB.out.cell (World.block_lt_of_cell? w _ b_a)).trans b_a
      replace p304:=eq_true p304
      replace q304:=eq_true q304
      go_wp2_with (first|((with_reducible refine a_z (N:=12) rfl ?_);(try (refine a_B (by rfl) ?_;dsimp only));refine a_x ?hg (N:=12) ?hd (cs:=#[.int .i64 0,.int .i64 0,.int .i64 0]) (t:=57) ?hr ?_;(case hd => rfl);(case hg => rfl);(case hr => first|(go_simp;done)|(go_simp;rfl));intro a_M hg w42 hbox hb;have a_A:=a_b.mk (hbox);have f_N:=a_b.mk ((by rw [hg];exact (a_h (lup_ HB.out)) : w.heap.size ≤ a_M));have a_U:=a_b.mk ((by rw [hg];exact (a_h (lup_ HB.out)) : w.heap.size ≤ a_M));replace HB:=a_b.mk (a_n (lup_ HB.out) hb);clear hb hbox hg;have h_W : w42.cell? ⟨a_M,0,none⟩ = some (.int .i64 0):=(a_l a_A.out 0).trans rfl;have k_h : w42.cell? ⟨a_M,1,none⟩ = some (.int .i64 0):=(a_l a_A.out 1).trans rfl;have k_i : w42.cell? ⟨a_M,2,none⟩ = some (.int .i64 0):=(a_l a_A.out 2).trans rfl;have i_g:=a_i a_A.out 0;have k_8:=a_i a_A.out 1;have k_9:=a_i a_A.out 2))
      go_ret
      exact ⟨by first|rfl|(simp [a_s,a_t] <;> rfl)|(simp [*, a_s,a_t] <;> rfl),by repeat (first|(with_reducible first|exact HB.out|apply a_e|apply a_a|apply a_f|refine a_d ?_ a_U.out)|exact HB.out)⟩
     rw [if_neg c41] at H
     have c41b0 : (x72_2 == 20) = false:=beq_eq_false_iff_ne.mpr c41
     have c41b1 : (x72_2 != 20) = true:=bne_iff_ne.mpr c41
     replace H:=Option.bind_eq_some_iff.mp H
     obtain ⟨⟨t306,t309⟩,A440,H⟩:=H
     replace H : ((a_g.f k2 ((a_v l1 x72_2).f0) ((a_v l1 x72_2).f1) ((a_v l1 x72_2).f2)).bind fun bt311 => (if (bt311.2 != (t309 == 0)) = true then (some false) else (if bt311.2 = true then ((a_p.f k2 t306 bt311.1).bind fun t316 => (if t316 = true then (a_c.l2 k2 l1 (l1.length : Int) (wrap64 (x72_2 + 1))) else (some false))) else (if t309 = 2 then ((a_p.f k2 t306 bt311.1).bind fun t317 => (if t317 = true then (a_c.l2 k2 l1 (l1.length : Int) (wrap64 (x72_2 + 1))) else (some false))) else (some false))))) = some r:=H
     have A44:=a_b.mk A440
     clear A440
     replace H:=Option.bind_eq_some_iff.mp H
     obtain ⟨⟨t311,t314⟩,A450,H⟩:=H
     replace H : (if (t314 != (t309 == 0)) = true then (some false) else (if t314 = true then ((a_p.f k2 t306 t311).bind fun t316 => (if t316 = true then (a_c.l2 k2 l1 (l1.length : Int) (wrap64 (x72_2 + 1))) else (some false))) else (if t309 = 2 then ((a_p.f k2 t306 t311).bind fun t317 => (if t317 = true then (a_c.l2 k2 l1 (l1.length : Int) (wrap64 (x72_2 + 1))) else (some false))) else (some false)))) = some r:=H
     have A45:=a_b.mk A450
     clear A450
     by_cases c46 : (t314 != (t309 == 0)) = true
     ·rw [if_pos c46] at H
      have c46b0 : (t314 != (t309 == 0)) = true:=c46
      (try (have c46b1 : decide (t314 = (t309 == 0)) = false:=by simpa using c46))
      (try (have c46b2 : (t314 == (t309 == 0)) = false:=by simpa using c46))
      (try (have c46b3 : ¬ (t314 = (t309 == 0)):=by simpa using c46))
      clear c46
      obtain rfl:=Option.some.inj H
      have p304 : 0 ≤ (x72_2 : Int):=of_decide_eq_true (by first|(with_reducible assumption)|assumption)
      have q304 : x72_2 < (l1.length : Int):=of_decide_eq_true (by first|(with_reducible assumption)|assumption)
      obtain ⟨ad304,e304,a_8,a_9,b_a⟩:=d_V HR1.out x72_2 p304 q304
      cases e304
      replace a_8:=(HB.out.cell (World.block_lt_of_cell? w _ a_8)).trans a_8
      replace a_9:=(HB.out.cell (World.block_lt_of_cell? w _ a_9)).trans a_9
      replace b_a:=(HB.out.cell (World.block_lt_of_cell? w _ b_a)).trans b_a
      replace p304:=eq_true p304
      replace q304:=eq_true q304
      go_wp2_with (first|((with_reducible refine a_z (N:=12) rfl ?_);(try (refine a_B (by rfl) ?_;dsimp only));refine a_x ?hg (N:=12) ?hd (cs:=#[.int .i64 0,.int .i64 0,.int .i64 0]) (t:=57) ?hr ?_;(case hd => rfl);(case hg => rfl);(case hr => first|(go_simp;done)|(go_simp;rfl));intro a_M hg w47 hbox hb;have a_A:=a_b.mk (hbox);have f_N:=a_b.mk ((by rw [hg];exact (a_h (lup_ HB.out)) : w.heap.size ≤ a_M));have a_U:=a_b.mk ((by rw [hg];exact (a_h (lup_ HB.out)) : w.heap.size ≤ a_M));replace HB:=a_b.mk (a_n (lup_ HB.out) hb);clear hb hbox hg;have h_X : w47.cell? ⟨a_M,0,none⟩ = some (.int .i64 0):=(a_l a_A.out 0).trans rfl;have k_n : w47.cell? ⟨a_M,1,none⟩ = some (.int .i64 0):=(a_l a_A.out 1).trans rfl;have k_o : w47.cell? ⟨a_M,2,none⟩ = some (.int .i64 0):=(a_l a_A.out 2).trans rfl;have i_h:=a_i a_A.out 0;have l_f:=a_i a_A.out 1;have l_g:=a_i a_A.out 2)|((with_reducible refine a_y (f:=26) rfl ?_);refine a_V (some 86) rfl rfl Tryd.func26 (by kernel_rfl) rfl #[.int .i64 ((a_v l1 x72_2).f0),.int .i64 ((a_v l1 x72_2).f1),.int .i64 ((a_v l1 x72_2).f2)] rfl (by (try simp only [List.map_toArray,List.map_cons,List.map_nil]);first|done|rfl|(simp only [List.length_drop,List.length_take];rfl)) ?_;(with_reducible refine (a_o.calls k2 ((a_v l1 x72_2).f0) ((a_v l1 x72_2).f1) ((a_v l1 x72_2).f2) t306 t309 _ A44.out).mono ?_);rintro e w49 ⟨v307,rfl,ho0,hb⟩;refine ⟨_,rfl,?_⟩;have a_0:=a_b.mk (Kd.a_3 ho0 (a_h (by repeat (first|(with_reducible first|exact HB.out|apply a_e|apply a_a|apply a_f|refine a_d ?_ a_U.out)|exact HB.out))));replace a_A:=a_b.mk (a_q (g:=a_M) (o:=.cells #[.int .i64 ((a_v l1 x72_2).f0),.int .i64 ((a_v l1 x72_2).f1),.int .i64 ((a_v l1 x72_2).f2)] 57 (0,0)) (by (with_reducible repeat (first|refine a_k ?_ _|refine a_m ?_|refine a_j ?_ _));refine a_K (cs:=#[.int .i64 ((a_v l1 x72_2).f0),.int .i64 ((a_v l1 x72_2).f1),.int .i64 0]) ?_ 2 _ rfl;(with_reducible repeat (first|refine a_k ?_ _|refine a_m ?_|refine a_j ?_ _));refine a_K (cs:=#[.int .i64 ((a_v l1 x72_2).f0),.int .i64 0,.int .i64 0]) ?_ 1 _ rfl;(with_reducible repeat (first|refine a_k ?_ _|refine a_m ?_|refine a_j ?_ _));refine a_K (cs:=#[.int .i64 0,.int .i64 0,.int .i64 0]) ?_ 0 _ rfl;(with_reducible repeat (first|refine a_k ?_ _|refine a_m ?_|refine a_j ?_ _));exact a_A.out) hb);replace HB:=a_b.mk (a_n (by repeat (first|(with_reducible first|exact HB.out|apply a_e|apply a_a|apply a_f|refine a_d ?_ a_U.out)|exact HB.out)) hb);(try clear hb);(try clear hb2);(try clear hk);(try clear hi);(try clear ho0))|((with_reducible refine a_z (N:=13) rfl ?_);(try (refine a_B (by rfl) ?_;dsimp only));refine a_x ?hg (N:=13) ?hd (cs:=#[.slice none 0 0]) (t:=24) ?hr ?_;(case hd => rfl);(case hg => rfl);(case hr => first|(go_simp;done)|(go_simp;rfl));intro a_X hg w50 hbox hb;have a_R:=a_b.mk (hbox);have f_4:=a_b.mk ((by rw [hg];exact (a_h (by repeat (first|(with_reducible first|exact HB.out|apply a_e|apply a_a|apply a_f|refine a_d ?_ a_U.out)|exact HB.out))) : w.heap.size ≤ a_X));have b_v:=a_b.mk ((by rw [hg];exact (a_h (by repeat (first|(with_reducible first|exact HB.out|apply a_e|apply a_a|apply a_f|refine a_d ?_ a_U.out)|exact HB.out))) : w.heap.size ≤ a_X));have b_f:=a_b.mk ((by rw [hg];exact Nat.ne_of_lt (a_E (bup_ a_A.out)) : a_M ≠ a_X));have b_V:=a_b.mk ((by rw [hg];exact Nat.ne_of_gt (a_E (bup_ a_A.out)) : a_X ≠ a_M));replace a_0:=a_b.mk (Kd.a_F (rup_ a_0.out) hb);replace a_A:=a_b.mk (a_q (bup_ a_A.out) hb);replace HB:=a_b.mk (a_n (by repeat (first|(with_reducible first|exact HB.out|apply a_e|apply a_a|apply a_f|refine a_d ?_ a_U.out)|exact HB.out)) hb);clear hb hbox hg;obtain ⟨Ao51,co51,eo51⟩:=Kd.a_4 a_0.out;subst eo51;have m_S:=b_V.out;have n_i:=b_f.out;have k_q : w50.cell? ⟨a_X,0,none⟩ = some (.slice none 0 0):=(a_l a_R.out 0).trans rfl;have l_i:=a_i a_R.out 0;have k_r : w50.cell? ⟨a_M,0,none⟩ = some (.int .i64 ((a_v l1 x72_2).f0)):=(a_l a_A.out 0).trans rfl;have k_s : w50.cell? ⟨a_M,1,none⟩ = some (.int .i64 ((a_v l1 x72_2).f1)):=(a_l a_A.out 1).trans rfl;have k_t : w50.cell? ⟨a_M,2,none⟩ = some (.int .i64 ((a_v l1 x72_2).f2)):=(a_l a_A.out 2).trans rfl;have l_j:=a_i a_A.out 0;have l_k:=a_i a_A.out 1;have l_l:=a_i a_A.out 2)|((with_reducible refine a_y (f:=27) rfl ?_);refine a_V (some 96) rfl rfl Tryd.func27 (by kernel_rfl) rfl #[.int .i64 ((a_v l1 x72_2).f0),.int .i64 ((a_v l1 x72_2).f1),.int .i64 ((a_v l1 x72_2).f2)] rfl (by (try simp only [List.map_toArray,List.map_cons,List.map_nil]);first|done|rfl|(simp only [List.length_drop,List.length_take];rfl)) ?_;(with_reducible refine (a_g.calls k2 ((a_v l1 x72_2).f0) ((a_v l1 x72_2).f1) ((a_v l1 x72_2).f2) t311 t314 _ A45.out).mono ?_);rintro e w55 ⟨v312,rfl,ho0,hb⟩;refine ⟨_,rfl,?_⟩;have b_E:=a_b.mk (Kd.a_3 (Kd.e_l ho0 (Kd.R_lt (by (with_reducible repeat (first|apply Kd.a_I|apply Kd.a_J|apply Kd.a_N));exact (Kd.a_O (Kd.b_g (p:=⟨a_X,0,none⟩) (Kd.a_L a_0.out a_R.out (by decide)) (fun _ hk => hk.2) (.slice Ao51 t306.length co51)) (fun _ h_ => h_.1))))) (a_h (by repeat (first|(with_reducible first|exact HB.out|apply a_e|apply a_a|apply a_f|refine a_d ?_ a_U.out|refine a_d ?_ b_v.out)|exact HB.out))));replace a_0:=a_b.mk (Kd.c_U (by (with_reducible repeat (first|apply Kd.a_I|apply Kd.a_J|apply Kd.a_N));exact (Kd.a_O (Kd.b_g (p:=⟨a_X,0,none⟩) (Kd.a_L a_0.out a_R.out (by decide)) (fun _ hk => hk.2) (.slice Ao51 t306.length co51)) (fun _ h_ => h_.1))) (Kd.e_k ho0) hb);replace a_A:=a_b.mk (a_q (g:=a_M) (o:=.cells #[.int .i64 ((a_v l1 x72_2).f0),.int .i64 ((a_v l1 x72_2).f1),.int .i64 ((a_v l1 x72_2).f2)] 57 (0,0)) (by (with_reducible repeat (first|refine a_k ?_ _|refine a_m ?_|refine a_j ?_ _));refine a_W ?_ b_f.out _;(with_reducible repeat (first|refine a_k ?_ _|refine a_m ?_|refine a_j ?_ _));exact a_A.out) hb);replace a_R:=a_b.mk (a_q (g:=a_X) (o:=.cells #[.slice Ao51 t306.length co51] 24 (0,0)) (by (with_reducible repeat (first|refine a_k ?_ _|refine a_m ?_|refine a_j ?_ _));refine a_K (cs:=#[.slice none 0 0]) ?_ 0 _ rfl;(with_reducible repeat (first|refine a_k ?_ _|refine a_m ?_|refine a_j ?_ _));exact a_R.out) hb);replace HB:=a_b.mk (a_n (by repeat (first|(with_reducible first|exact HB.out|apply a_e|apply a_a|apply a_f|refine a_d ?_ a_U.out|refine a_d ?_ b_v.out)|exact HB.out)) hb);(try clear hb);(try clear hb2);(try clear hk);(try clear hi);(try clear ho0))|((with_reducible refine a_z (N:=15) rfl ?_);(try (refine a_B (by rfl) ?_;dsimp only));refine a_x ?hg (N:=15) ?hd (cs:=#[.slice none 0 0]) (t:=24) ?hr ?_;(case hd => rfl);(case hg => rfl);(case hr => first|(go_simp;done)|(go_simp;rfl));intro a_1 hg w56 hbox hb;have b_z:=a_b.mk (hbox);have f_5:=a_b.mk ((by rw [hg];exact (a_h (by repeat (first|(with_reducible first|exact HB.out|apply a_e|apply a_a|apply a_f|refine a_d ?_ a_U.out|refine a_d ?_ b_v.out)|exact HB.out))) : w.heap.size ≤ a_1));have c_5:=a_b.mk ((by rw [hg];exact (a_h (by repeat (first|(with_reducible first|exact HB.out|apply a_e|apply a_a|apply a_f|refine a_d ?_ a_U.out|refine a_d ?_ b_v.out)|exact HB.out))) : w.heap.size ≤ a_1));have b_r:=a_b.mk ((by rw [hg];exact Nat.ne_of_lt (a_E (bup_ a_A.out)) : a_M ≠ a_1));have b_W:=a_b.mk ((by rw [hg];exact Nat.ne_of_gt (a_E (bup_ a_A.out)) : a_1 ≠ a_M));have b_s:=a_b.mk ((by rw [hg];exact Nat.ne_of_lt (a_E (bup_ a_R.out)) : a_X ≠ a_1));have b_X:=a_b.mk ((by rw [hg];exact Nat.ne_of_gt (a_E (bup_ a_R.out)) : a_1 ≠ a_X));replace a_0:=a_b.mk (Kd.a_F (rup_ a_0.out) hb);replace b_E:=a_b.mk (Kd.a_F (rup_ b_E.out) hb);replace a_A:=a_b.mk (a_q (bup_ a_A.out) hb);replace a_R:=a_b.mk (a_q (bup_ a_R.out) hb);replace HB:=a_b.mk (a_n (by repeat (first|(with_reducible first|exact HB.out|apply a_e|apply a_a|apply a_f|refine a_d ?_ a_U.out|refine a_d ?_ b_v.out)|exact HB.out)) hb);clear hb hbox hg;obtain ⟨Ao57,co57,eo57⟩:=Kd.a_4 b_E.out;subst eo57;have m_T:=b_W.out;have n_j:=b_r.out;have m_U:=b_X.out;have n_k:=b_s.out;have k_w : w56.cell? ⟨a_1,0,none⟩ = some (.slice none 0 0):=(a_l b_z.out 0).trans rfl;have l_o:=a_i b_z.out 0))
      go_ret
      exact ⟨by first|rfl|(simp [a_s,a_t] <;> rfl)|(simp [*, a_s,a_t] <;> rfl),by repeat (first|(with_reducible first|exact HB.out|apply a_e|apply a_a|apply a_f|refine a_d ?_ a_U.out|refine a_d ?_ b_v.out|refine a_d ?_ c_5.out)|exact HB.out)⟩
     rw [if_neg c46] at H
     have c46b0 : (t314 != (t309 == 0)) = false:=by simpa using c46
     (try (have c46b1 : decide (t314 = (t309 == 0)) = true:=by simpa using c46))
     (try (have c46b2 : (t314 == (t309 == 0)) = true:=by simpa using c46))
     clear c46
     by_cases c61 : t314 = true
     ·subst c61
      have H1 : ((a_p.f k2 t306 t311).bind fun t316 => (if t316 = true then (a_c.l2 k2 l1 (l1.length : Int) (wrap64 (x72_2 + 1))) else (some false))) = some r:=by rw [if_pos rfl] at H;exact H
      clear H
      have H:=H1
      clear H1
      replace H:=Option.bind_eq_some_iff.mp H
      obtain ⟨t316,A620,H⟩:=H
      replace H : (if t316 = true then (a_c.l2 k2 l1 (l1.length : Int) (wrap64 (x72_2 + 1))) else (some false)) = some r:=H
      have A62:=a_b.mk A620
      clear A620
      by_cases c63 : t316 = true
      ·subst c63
       have H1 : (a_c.l2 k2 l1 (l1.length : Int) (wrap64 (x72_2 + 1))) = some r:=by rw [if_pos rfl] at H;exact H
       clear H
       have H:=H1
       clear H1
       have H':=a_b.mk H
       clear H
       have p304 : 0 ≤ (x72_2 : Int):=of_decide_eq_true (by first|(with_reducible assumption)|assumption)
       have q304 : x72_2 < (l1.length : Int):=of_decide_eq_true (by first|(with_reducible assumption)|assumption)
       obtain ⟨ad304,e304,a_8,a_9,b_a⟩:=d_V HR1.out x72_2 p304 q304
       cases e304
       replace a_8:=(HB.out.cell (World.block_lt_of_cell? w _ a_8)).trans a_8
       replace a_9:=(HB.out.cell (World.block_lt_of_cell? w _ a_9)).trans a_9
       replace b_a:=(HB.out.cell (World.block_lt_of_cell? w _ b_a)).trans b_a
       replace p304:=eq_true p304
       replace q304:=eq_true q304
       go_wp2_with (first|((with_reducible refine a_z (N:=12) rfl ?_);(try (refine a_B (by rfl) ?_;dsimp only));refine a_x ?hg (N:=12) ?hd (cs:=#[.int .i64 0,.int .i64 0,.int .i64 0]) (t:=57) ?hr ?_;(case hd => rfl);(case hg => rfl);(case hr => first|(go_simp;done)|(go_simp;rfl));intro a_M hg w64 hbox hb;have a_A:=a_b.mk (hbox);have f_N:=a_b.mk ((by rw [hg];exact (a_h (lup_ HB.out)) : w.heap.size ≤ a_M));have a_U:=a_b.mk ((by rw [hg];exact (a_h (lup_ HB.out)) : w.heap.size ≤ a_M));replace HB:=a_b.mk (a_n (lup_ HB.out) hb);clear hb hbox hg;have k_z : w64.cell? ⟨a_M,0,none⟩ = some (.int .i64 0):=(a_l a_A.out 0).trans rfl;have k_A : w64.cell? ⟨a_M,1,none⟩ = some (.int .i64 0):=(a_l a_A.out 1).trans rfl;have k_B : w64.cell? ⟨a_M,2,none⟩ = some (.int .i64 0):=(a_l a_A.out 2).trans rfl;have l_r:=a_i a_A.out 0;have l_s:=a_i a_A.out 1;have l_t:=a_i a_A.out 2)|((with_reducible refine a_y (f:=26) rfl ?_);refine a_V (some 86) rfl rfl Tryd.func26 (by kernel_rfl) rfl #[.int .i64 ((a_v l1 x72_2).f0),.int .i64 ((a_v l1 x72_2).f1),.int .i64 ((a_v l1 x72_2).f2)] rfl (by (try simp only [List.map_toArray,List.map_cons,List.map_nil]);first|done|rfl|(simp only [List.length_drop,List.length_take];rfl)) ?_;(with_reducible refine (a_o.calls k2 ((a_v l1 x72_2).f0) ((a_v l1 x72_2).f1) ((a_v l1 x72_2).f2) t306 t309 _ A44.out).mono ?_);rintro e w66 ⟨v307,rfl,ho0,hb⟩;refine ⟨_,rfl,?_⟩;have a_0:=a_b.mk (Kd.a_3 ho0 (a_h (by repeat (first|(with_reducible first|exact HB.out|apply a_e|apply a_a|apply a_f|refine a_d ?_ a_U.out)|exact HB.out))));replace a_A:=a_b.mk (a_q (g:=a_M) (o:=.cells #[.int .i64 ((a_v l1 x72_2).f0),.int .i64 ((a_v l1 x72_2).f1),.int .i64 ((a_v l1 x72_2).f2)] 57 (0,0)) (by (with_reducible repeat (first|refine a_k ?_ _|refine a_m ?_|refine a_j ?_ _));refine a_K (cs:=#[.int .i64 ((a_v l1 x72_2).f0),.int .i64 ((a_v l1 x72_2).f1),.int .i64 0]) ?_ 2 _ rfl;(with_reducible repeat (first|refine a_k ?_ _|refine a_m ?_|refine a_j ?_ _));refine a_K (cs:=#[.int .i64 ((a_v l1 x72_2).f0),.int .i64 0,.int .i64 0]) ?_ 1 _ rfl;(with_reducible repeat (first|refine a_k ?_ _|refine a_m ?_|refine a_j ?_ _));refine a_K (cs:=#[.int .i64 0,.int .i64 0,.int .i64 0]) ?_ 0 _ rfl;(with_reducible repeat (first|refine a_k ?_ _|refine a_m ?_|refine a_j ?_ _));exact a_A.out) hb);replace HB:=a_b.mk (a_n (by repeat (first|(with_reducible first|exact HB.out|apply a_e|apply a_a|apply a_f|refine a_d ?_ a_U.out)|exact HB.out)) hb);(try clear hb);(try clear hb2);(try clear hk);(try clear hi);(try clear ho0))|((with_reducible refine a_z (N:=13) rfl ?_);(try (refine a_B (by rfl) ?_;dsimp only));refine a_x ?hg (N:=13) ?hd (cs:=#[.slice none 0 0]) (t:=24) ?hr ?_;(case hd => rfl);(case hg => rfl);(case hr => first|(go_simp;done)|(go_simp;rfl));intro a_X hg w67 hbox hb;have a_R:=a_b.mk (hbox);have f_4:=a_b.mk ((by rw [hg];exact (a_h (by repeat (first|(with_reducible first|exact HB.out|apply a_e|apply a_a|apply a_f|refine a_d ?_ a_U.out)|exact HB.out))) : w.heap.size ≤ a_X));have b_v:=a_b.mk ((by rw [hg];exact (a_h (by repeat (first|(with_reducible first|exact HB.out|apply a_e|apply a_a|apply a_f|refine a_d ?_ a_U.out)|exact HB.out))) : w.heap.size ≤ a_X));have b_f:=a_b.mk ((by rw [hg];exact Nat.ne_of_lt (a_E (bup_ a_A.out)) : a_M ≠ a_X));have b_V:=a_b.mk ((by rw [hg];exact Nat.ne_of_gt (a_E (bup_ a_A.out)) : a_X ≠ a_M));replace a_0:=a_b.mk (Kd.a_F (rup_ a_0.out) hb);replace a_A:=a_b.mk (a_q (bup_ a_A.out) hb);replace HB:=a_b.mk (a_n (by repeat (first|(with_reducible first|exact HB.out|apply a_e|apply a_a|apply a_f|refine a_d ?_ a_U.out)|exact HB.out)) hb);clear hb hbox hg;obtain ⟨Ao68,co68,eo68⟩:=Kd.a_4 a_0.out;subst eo68;have m_V:=b_V.out;have n_l:=b_f.out;have k_C : w67.cell? ⟨a_X,0,none⟩ = some (.slice none 0 0):=(a_l a_R.out 0).trans rfl;have l_u:=a_i a_R.out 0;have k_D : w67.cell? ⟨a_M,0,none⟩ = some (.int .i64 ((a_v l1 x72_2).f0)):=(a_l a_A.out 0).trans rfl;have k_E : w67.cell? ⟨a_M,1,none⟩ = some (.int .i64 ((a_v l1 x72_2).f1)):=(a_l a_A.out 1).trans rfl;have k_F : w67.cell? ⟨a_M,2,none⟩ = some (.int .i64 ((a_v l1 x72_2).f2)):=(a_l a_A.out 2).trans rfl;have l_v:=a_i a_A.out 0;have l_w:=a_i a_A.out 1;have l_x:=a_i a_A.out 2)|((with_reducible refine a_y (f:=27) rfl ?_);refine a_V (some 96) rfl rfl Tryd.func27 (by kernel_rfl) rfl #[.int .i64 ((a_v l1 x72_2).f0),.int .i64 ((a_v l1 x72_2).f1),.int .i64 ((a_v l1 x72_2).f2)] rfl (by (try simp only [List.map_toArray,List.map_cons,List.map_nil]);first|done|rfl|(simp only [List.length_drop,List.length_take];rfl)) ?_;(with_reducible refine (a_g.calls k2 ((a_v l1 x72_2).f0) ((a_v l1 x72_2).f1) ((a_v l1 x72_2).f2) t311 true _ A45.out).mono ?_);rintro e w72 ⟨v312,rfl,ho0,hb⟩;refine ⟨_,rfl,?_⟩;have b_E:=a_b.mk (Kd.a_3 (Kd.e_l ho0 (Kd.R_lt (by (with_reducible repeat (first|apply Kd.a_I|apply Kd.a_J|apply Kd.a_N));exact (Kd.a_O (Kd.b_g (p:=⟨a_X,0,none⟩) (Kd.a_L a_0.out a_R.out (by decide)) (fun _ hk => hk.2) (.slice Ao68 t306.length co68)) (fun _ h_ => h_.1))))) (a_h (by repeat (first|(with_reducible first|exact HB.out|apply a_e|apply a_a|apply a_f|refine a_d ?_ a_U.out|refine a_d ?_ b_v.out)|exact HB.out))));replace a_0:=a_b.mk (Kd.c_U (by (with_reducible repeat (first|apply Kd.a_I|apply Kd.a_J|apply Kd.a_N));exact (Kd.a_O (Kd.b_g (p:=⟨a_X,0,none⟩) (Kd.a_L a_0.out a_R.out (by decide)) (fun _ hk => hk.2) (.slice Ao68 t306.length co68)) (fun _ h_ => h_.1))) (Kd.e_k ho0) hb);replace a_A:=a_b.mk (a_q (g:=a_M) (o:=.cells #[.int .i64 ((a_v l1 x72_2).f0),.int .i64 ((a_v l1 x72_2).f1),.int .i64 ((a_v l1 x72_2).f2)] 57 (0,0)) (by (with_reducible repeat (first|refine a_k ?_ _|refine a_m ?_|refine a_j ?_ _));refine a_W ?_ b_f.out _;(with_reducible repeat (first|refine a_k ?_ _|refine a_m ?_|refine a_j ?_ _));exact a_A.out) hb);replace a_R:=a_b.mk (a_q (g:=a_X) (o:=.cells #[.slice Ao68 t306.length co68] 24 (0,0)) (by (with_reducible repeat (first|refine a_k ?_ _|refine a_m ?_|refine a_j ?_ _));refine a_K (cs:=#[.slice none 0 0]) ?_ 0 _ rfl;(with_reducible repeat (first|refine a_k ?_ _|refine a_m ?_|refine a_j ?_ _));exact a_R.out) hb);replace HB:=a_b.mk (a_n (by repeat (first|(with_reducible first|exact HB.out|apply a_e|apply a_a|apply a_f|refine a_d ?_ a_U.out|refine a_d ?_ b_v.out)|exact HB.out)) hb);(try clear hb);(try clear hb2);(try clear hk);(try clear hi);(try clear ho0))|((with_reducible refine a_z (N:=15) rfl ?_);(try (refine a_B (by rfl) ?_;dsimp only));refine a_x ?hg (N:=15) ?hd (cs:=#[.slice none 0 0]) (t:=24) ?hr ?_;(case hd => rfl);(case hg => rfl);(case hr => first|(go_simp;done)|(go_simp;rfl));intro a_1 hg w73 hbox hb;have b_z:=a_b.mk (hbox);have f_5:=a_b.mk ((by rw [hg];exact (a_h (by repeat (first|(with_reducible first|exact HB.out|apply a_e|apply a_a|apply a_f|refine a_d ?_ a_U.out|refine a_d ?_ b_v.out)|exact HB.out))) : w.heap.size ≤ a_1));have c_5:=a_b.mk ((by rw [hg];exact (a_h (by repeat (first|(with_reducible first|exact HB.out|apply a_e|apply a_a|apply a_f|refine a_d ?_ a_U.out|refine a_d ?_ b_v.out)|exact HB.out))) : w.heap.size ≤ a_1));have b_r:=a_b.mk ((by rw [hg];exact Nat.ne_of_lt (a_E (bup_ a_A.out)) : a_M ≠ a_1));have b_W:=a_b.mk ((by rw [hg];exact Nat.ne_of_gt (a_E (bup_ a_A.out)) : a_1 ≠ a_M));have b_s:=a_b.mk ((by rw [hg];exact Nat.ne_of_lt (a_E (bup_ a_R.out)) : a_X ≠ a_1));have b_X:=a_b.mk ((by rw [hg];exact Nat.ne_of_gt (a_E (bup_ a_R.out)) : a_1 ≠ a_X));replace a_0:=a_b.mk (Kd.a_F (rup_ a_0.out) hb);replace b_E:=a_b.mk (Kd.a_F (rup_ b_E.out) hb);replace a_A:=a_b.mk (a_q (bup_ a_A.out) hb);replace a_R:=a_b.mk (a_q (bup_ a_R.out) hb);replace HB:=a_b.mk (a_n (by repeat (first|(with_reducible first|exact HB.out|apply a_e|apply a_a|apply a_f|refine a_d ?_ a_U.out|refine a_d ?_ b_v.out)|exact HB.out)) hb);clear hb hbox hg;obtain ⟨Ao74,co74,eo74⟩:=Kd.a_4 b_E.out;subst eo74;have m_W:=b_W.out;have n_m:=b_r.out;have m_X:=b_X.out;have n_n:=b_s.out;have k_G : w73.cell? ⟨a_1,0,none⟩ = some (.slice none 0 0):=(a_l b_z.out 0).trans rfl;have l_y:=a_i b_z.out 0;have k_H : w73.cell? ⟨a_X,0,none⟩ = some (.slice Ao68 t306.length co68):=(a_l a_R.out 0).trans rfl;have l_z:=a_i a_R.out 0)|(go_at_call 24;(with_reducible refine (a_p.calls k2 _ _ t306 _ _ t311 true _ ?side1 ?side2 ?side3 ?side4 A62.out).mono ?_);(case side1 => refine (Kd.a_D (e:=56) (base:=w.heap.size) (ok:=fun k_ => (True ∧ some k_ ≠ (.slice Ao74 t311.length co74 : Value).ownBlock)) (n:=t306.length) (c:=co68) ?_).2.2;exact (by (with_reducible repeat (first|apply Kd.a_I|apply Kd.a_J|apply Kd.a_N));exact (Kd.a_O (Kd.b_g (p:=⟨a_1,0,none⟩) (Kd.a_L a_0.out b_z.out (by decide)) (fun _ hk => hk.2) (.slice Ao74 t311.length co74)) (fun _ h_ => h_.1))));(case side2 => exact (Kd.a_D a_0.out).2.1);(case side3 => refine (Kd.a_D (e:=56) (base:=w.heap.size) (ok:=fun k_ => (True ∧ some k_ ≠ (.slice Ao68 t306.length co68 : Value).ownBlock)) (n:=t311.length) (c:=co74) ?_).2.2;exact (by (with_reducible repeat (first|apply Kd.a_I|apply Kd.a_J|apply Kd.a_N));exact (Kd.a_O (Kd.b_g (p:=⟨a_1,0,none⟩) (Kd.a_L b_E.out b_z.out (by decide)) (fun _ hk => hk.2) (.slice Ao74 t311.length co74)) (fun _ h_ => h_.1))));(case side4 => exact (Kd.a_D b_E.out).2.1);rintro e w79 ⟨rfl,hb⟩;replace a_0:=a_b.mk (Kd.a_F (by (with_reducible repeat (first|apply Kd.a_I|apply Kd.a_J|apply Kd.a_N));exact (Kd.a_O (Kd.b_g (p:=⟨a_1,0,none⟩) (Kd.a_L a_0.out b_z.out (by decide)) (fun _ hk => hk.2) (.slice Ao74 t311.length co74)) (fun _ h_ => h_.1))) hb);replace b_E:=a_b.mk (Kd.a_F (by (with_reducible repeat (first|apply Kd.a_I|apply Kd.a_J|apply Kd.a_N));exact (Kd.a_O (Kd.b_g (p:=⟨a_1,0,none⟩) (Kd.a_L b_E.out b_z.out (by decide)) (fun _ hk => hk.2) (.slice Ao74 t311.length co74)) (fun _ h_ => h_.1))) hb);replace a_A:=a_b.mk (a_q (g:=a_M) (o:=.cells #[.int .i64 ((a_v l1 x72_2).f0),.int .i64 ((a_v l1 x72_2).f1),.int .i64 ((a_v l1 x72_2).f2)] 57 (0,0)) (by (with_reducible repeat (first|refine a_k ?_ _|refine a_m ?_|refine a_j ?_ _));refine a_W ?_ b_r.out _;(with_reducible repeat (first|refine a_k ?_ _|refine a_m ?_|refine a_j ?_ _));exact a_A.out) hb);replace a_R:=a_b.mk (a_q (g:=a_X) (o:=.cells #[.slice Ao68 t306.length co68] 24 (0,0)) (by (with_reducible repeat (first|refine a_k ?_ _|refine a_m ?_|refine a_j ?_ _));refine a_W ?_ b_s.out _;(with_reducible repeat (first|refine a_k ?_ _|refine a_m ?_|refine a_j ?_ _));exact a_R.out) hb);replace b_z:=a_b.mk (a_q (g:=a_1) (o:=.cells #[.slice Ao74 t311.length co74] 24 (0,0)) (by (with_reducible repeat (first|refine a_k ?_ _|refine a_m ?_|refine a_j ?_ _));refine a_K (cs:=#[.slice none 0 0]) ?_ 0 _ rfl;(with_reducible repeat (first|refine a_k ?_ _|refine a_m ?_|refine a_j ?_ _));exact b_z.out) hb);replace HB:=a_b.mk (a_n (by repeat (first|(with_reducible first|exact HB.out|apply a_e|apply a_a|apply a_f|refine a_d ?_ a_U.out|refine a_d ?_ b_v.out|refine a_d ?_ c_5.out)|exact HB.out)) hb);(try clear hb);(try clear hb2);(try clear hk);(try clear hi)))
       go_roundg k2
       case measure => have:=HJ4.out;have:=HK2.out;omega
       case rel => exact ⟨(wrap64 (x72_2 + 1)),(by first|rfl|(simp;done)|(simp [*];done)),H',⟨by have:=HJ4.out;have:=HK2.out;omega⟩,⟨by repeat (first|(with_reducible first|exact HB.out|apply a_e|apply a_a|apply a_f|refine a_d ?_ a_U.out|refine a_d ?_ b_v.out|refine a_d ?_ c_5.out)|exact HB.out)⟩⟩
      replace c63:=Bool.eq_false_iff.mpr c63
      subst c63
      have H1 : (some false) = some r:=by rw [if_neg (show ¬ (false = true) by decide)] at H;exact H
      clear H
      have H:=H1
      clear H1
      obtain rfl:=Option.some.inj H
      have p304 : 0 ≤ (x72_2 : Int):=of_decide_eq_true (by first|(with_reducible assumption)|assumption)
      have q304 : x72_2 < (l1.length : Int):=of_decide_eq_true (by first|(with_reducible assumption)|assumption)
      obtain ⟨ad304,e304,a_8,a_9,b_a⟩:=d_V HR1.out x72_2 p304 q304
      cases e304
      replace a_8:=(HB.out.cell (World.block_lt_of_cell? w _ a_8)).trans a_8
      replace a_9:=(HB.out.cell (World.block_lt_of_cell? w _ a_9)).trans a_9
      replace b_a:=(HB.out.cell (World.block_lt_of_cell? w _ b_a)).trans b_a
      replace p304:=eq_true p304
      replace q304:=eq_true q304
      go_wp2_with (first|((with_reducible refine a_z (N:=12) rfl ?_);(try (refine a_B (by rfl) ?_;dsimp only));refine a_x ?hg (N:=12) ?hd (cs:=#[.int .i64 0,.int .i64 0,.int .i64 0]) (t:=57) ?hr ?_;(case hd => rfl);(case hg => rfl);(case hr => first|(go_simp;done)|(go_simp;rfl));intro a_M hg w80 hbox hb;have a_A:=a_b.mk (hbox);have f_N:=a_b.mk ((by rw [hg];exact (a_h (lup_ HB.out)) : w.heap.size ≤ a_M));have a_U:=a_b.mk ((by rw [hg];exact (a_h (lup_ HB.out)) : w.heap.size ≤ a_M));replace HB:=a_b.mk (a_n (lup_ HB.out) hb);clear hb hbox hg;have k_I : w80.cell? ⟨a_M,0,none⟩ = some (.int .i64 0):=(a_l a_A.out 0).trans rfl;have k_J : w80.cell? ⟨a_M,1,none⟩ = some (.int .i64 0):=(a_l a_A.out 1).trans rfl;have k_K : w80.cell? ⟨a_M,2,none⟩ = some (.int .i64 0):=(a_l a_A.out 2).trans rfl;have l_A:=a_i a_A.out 0;have l_B:=a_i a_A.out 1;have l_C:=a_i a_A.out 2)|((with_reducible refine a_y (f:=26) rfl ?_);refine a_V (some 86) rfl rfl Tryd.func26 (by kernel_rfl) rfl #[.int .i64 ((a_v l1 x72_2).f0),.int .i64 ((a_v l1 x72_2).f1),.int .i64 ((a_v l1 x72_2).f2)] rfl (by (try simp only [List.map_toArray,List.map_cons,List.map_nil]);first|done|rfl|(simp only [List.length_drop,List.length_take];rfl)) ?_;(with_reducible refine (a_o.calls k2 ((a_v l1 x72_2).f0) ((a_v l1 x72_2).f1) ((a_v l1 x72_2).f2) t306 t309 _ A44.out).mono ?_);rintro e w82 ⟨v307,rfl,ho0,hb⟩;refine ⟨_,rfl,?_⟩;have a_0:=a_b.mk (Kd.a_3 ho0 (a_h (by repeat (first|(with_reducible first|exact HB.out|apply a_e|apply a_a|apply a_f|refine a_d ?_ a_U.out)|exact HB.out))));replace a_A:=a_b.mk (a_q (g:=a_M) (o:=.cells #[.int .i64 ((a_v l1 x72_2).f0),.int .i64 ((a_v l1 x72_2).f1),.int .i64 ((a_v l1 x72_2).f2)] 57 (0,0)) (by (with_reducible repeat (first|refine a_k ?_ _|refine a_m ?_|refine a_j ?_ _));refine a_K (cs:=#[.int .i64 ((a_v l1 x72_2).f0),.int .i64 ((a_v l1 x72_2).f1),.int .i64 0]) ?_ 2 _ rfl;(with_reducible repeat (first|refine a_k ?_ _|refine a_m ?_|refine a_j ?_ _));refine a_K (cs:=#[.int .i64 ((a_v l1 x72_2).f0),.int .i64 0,.int .i64 0]) ?_ 1 _ rfl;(with_reducible repeat (first|refine a_k ?_ _|refine a_m ?_|refine a_j ?_ _));refine a_K (cs:=#[.int .i64 0,.int .i64 0,.int .i64 0]) ?_ 0 _ rfl;(with_reducible repeat (first|refine a_k ?_ _|refine a_m ?_|refine a_j ?_ _));exact a_A.out) hb);replace HB:=a_b.mk (a_n (by repeat (first|(with_reducible first|exact HB.out|apply a_e|apply a_a|apply a_f|refine a_d ?_ a_U.out)|exact HB.out)) hb);(try clear hb);(try clear hb2);(try clear hk);(try clear hi);(try clear ho0))|((with_reducible refine a_z (N:=13) rfl ?_);(try (refine a_B (by rfl) ?_;dsimp only));refine a_x ?hg (N:=13) ?hd (cs:=#[.slice none 0 0]) (t:=24) ?hr ?_;(case hd => rfl);(case hg => rfl);(case hr => first|(go_simp;done)|(go_simp;rfl));intro a_X hg w83 hbox hb;have a_R:=a_b.mk (hbox);have f_4:=a_b.mk ((by rw [hg];exact (a_h (by repeat (first|(with_reducible first|exact HB.out|apply a_e|apply a_a|apply a_f|refine a_d ?_ a_U.out)|exact HB.out))) : w.heap.size ≤ a_X));have b_v:=a_b.mk ((by rw [hg];exact (a_h (by repeat (first|(with_reducible first|exact HB.out|apply a_e|apply a_a|apply a_f|refine a_d ?_ a_U.out)|exact HB.out))) : w.heap.size ≤ a_X));have b_f:=a_b.mk ((by rw [hg];exact Nat.ne_of_lt (a_E (bup_ a_A.out)) : a_M ≠ a_X));have b_V:=a_b.mk ((by rw [hg];exact Nat.ne_of_gt (a_E (bup_ a_A.out)) : a_X ≠ a_M));replace a_0:=a_b.mk (Kd.a_F (rup_ a_0.out) hb);replace a_A:=a_b.mk (a_q (bup_ a_A.out) hb);replace HB:=a_b.mk (a_n (by repeat (first|(with_reducible first|exact HB.out|apply a_e|apply a_a|apply a_f|refine a_d ?_ a_U.out)|exact HB.out)) hb);clear hb hbox hg;obtain ⟨Ao84,co84,eo84⟩:=Kd.a_4 a_0.out;subst eo84;have m_Y:=b_V.out;have n_o:=b_f.out;have k_L : w83.cell? ⟨a_X,0,none⟩ = some (.slice none 0 0):=(a_l a_R.out 0).trans rfl;have l_D:=a_i a_R.out 0;have k_M : w83.cell? ⟨a_M,0,none⟩ = some (.int .i64 ((a_v l1 x72_2).f0)):=(a_l a_A.out 0).trans rfl;have k_N : w83.cell? ⟨a_M,1,none⟩ = some (.int .i64 ((a_v l1 x72_2).f1)):=(a_l a_A.out 1).trans rfl;have k_O : w83.cell? ⟨a_M,2,none⟩ = some (.int .i64 ((a_v l1 x72_2).f2)):=(a_l a_A.out 2).trans rfl;have l_E:=a_i a_A.out 0;have l_F:=a_i a_A.out 1;have l_G:=a_i a_A.out 2)|((with_reducible refine a_y (f:=27) rfl ?_);refine a_V (some 96) rfl rfl Tryd.func27 (by kernel_rfl) rfl #[.int .i64 ((a_v l1 x72_2).f0),.int .i64 ((a_v l1 x72_2).f1),.int .i64 ((a_v l1 x72_2).f2)] rfl (by (try simp only [List.map_toArray,List.map_cons,List.map_nil]);first|done|rfl|(simp only [List.length_drop,List.length_take];rfl)) ?_;(with_reducible refine (a_g.calls k2 ((a_v l1 x72_2).f0) ((a_v l1 x72_2).f1) ((a_v l1 x72_2).f2) t311 true _ A45.out).mono ?_);rintro e w88 ⟨v312,rfl,ho0,hb⟩;refine ⟨_,rfl,?_⟩;have b_E:=a_b.mk (Kd.a_3 (Kd.e_l ho0 (Kd.R_lt (by (with_reducible repeat (first|apply Kd.a_I|apply Kd.a_J|apply Kd.a_N));exact (Kd.a_O (Kd.b_g (p:=⟨a_X,0,none⟩) (Kd.a_L a_0.out a_R.out (by decide)) (fun _ hk => hk.2) (.slice Ao84 t306.length co84)) (fun _ h_ => h_.1))))) (a_h (by repeat (first|(with_reducible first|exact HB.out|apply a_e|apply a_a|apply a_f|refine a_d ?_ a_U.out|refine a_d ?_ b_v.out)|exact HB.out))));replace a_0:=a_b.mk (Kd.c_U (by (with_reducible repeat (first|apply Kd.a_I|apply Kd.a_J|apply Kd.a_N));exact (Kd.a_O (Kd.b_g (p:=⟨a_X,0,none⟩) (Kd.a_L a_0.out a_R.out (by decide)) (fun _ hk => hk.2) (.slice Ao84 t306.length co84)) (fun _ h_ => h_.1))) (Kd.e_k ho0) hb);replace a_A:=a_b.mk (a_q (g:=a_M) (o:=.cells #[.int .i64 ((a_v l1 x72_2).f0),.int .i64 ((a_v l1 x72_2).f1),.int .i64 ((a_v l1 x72_2).f2)] 57 (0,0)) (by (with_reducible repeat (first|refine a_k ?_ _|refine a_m ?_|refine a_j ?_ _));refine a_W ?_ b_f.out _;(with_reducible repeat (first|refine a_k ?_ _|refine a_m ?_|refine a_j ?_ _));exact a_A.out) hb);replace a_R:=a_b.mk (a_q (g:=a_X) (o:=.cells #[.slice Ao84 t306.length co84] 24 (0,0)) (by (with_reducible repeat (first|refine a_k ?_ _|refine a_m ?_|refine a_j ?_ _));refine a_K (cs:=#[.slice none 0 0]) ?_ 0 _ rfl;(with_reducible repeat (first|refine a_k ?_ _|refine a_m ?_|refine a_j ?_ _));exact a_R.out) hb);replace HB:=a_b.mk (a_n (by repeat (first|(with_reducible first|exact HB.out|apply a_e|apply a_a|apply a_f|refine a_d ?_ a_U.out|refine a_d ?_ b_v.out)|exact HB.out)) hb);(try clear hb);(try clear hb2);(try clear hk);(try clear hi);(try clear ho0))|((with_reducible refine a_z (N:=15) rfl ?_);(try (refine a_B (by rfl) ?_;dsimp only));refine a_x ?hg (N:=15) ?hd (cs:=#[.slice none 0 0]) (t:=24) ?hr ?_;(case hd => rfl);(case hg => rfl);(case hr => first|(go_simp;done)|(go_simp;rfl));intro a_1 hg w89 hbox hb;have b_z:=a_b.mk (hbox);have f_5:=a_b.mk ((by rw [hg];exact (a_h (by repeat (first|(with_reducible first|exact HB.out|apply a_e|apply a_a|apply a_f|refine a_d ?_ a_U.out|refine a_d ?_ b_v.out)|exact HB.out))) : w.heap.size ≤ a_1));have c_5:=a_b.mk ((by rw [hg];exact (a_h (by repeat (first|(with_reducible first|exact HB.out|apply a_e|apply a_a|apply a_f|refine a_d ?_ a_U.out|refine a_d ?_ b_v.out)|exact HB.out))) : w.heap.size ≤ a_1));have b_r:=a_b.mk ((by rw [hg];exact Nat.ne_of_lt (a_E (bup_ a_A.out)) : a_M ≠ a_1));have b_W:=a_b.mk ((by rw [hg];exact Nat.ne_of_gt (a_E (bup_ a_A.out)) : a_1 ≠ a_M));have b_s:=a_b.mk ((by rw [hg];exact Nat.ne_of_lt (a_E (bup_ a_R.out)) : a_X ≠ a_1));have b_X:=a_b.mk ((by rw [hg];exact Nat.ne_of_gt (a_E (bup_ a_R.out)) : a_1 ≠ a_X));replace a_0:=a_b.mk (Kd.a_F (rup_ a_0.out) hb);replace b_E:=a_b.mk (Kd.a_F (rup_ b_E.out) hb);replace a_A:=a_b.mk (a_q (bup_ a_A.out) hb);replace a_R:=a_b.mk (a_q (bup_ a_R.out) hb);replace HB:=a_b.mk (a_n (by repeat (first|(with_reducible first|exact HB.out|apply a_e|apply a_a|apply a_f|refine a_d ?_ a_U.out|refine a_d ?_ b_v.out)|exact HB.out)) hb);clear hb hbox hg;obtain ⟨Ao90,co90,eo90⟩:=Kd.a_4 b_E.out;subst eo90;have m_Z:=b_W.out;have n_p:=b_r.out;have m_0:=b_X.out;have n_q:=b_s.out;have k_P : w89.cell? ⟨a_1,0,none⟩ = some (.slice none 0 0):=(a_l b_z.out 0).trans rfl;have l_H:=a_i b_z.out 0;have k_Q : w89.cell? ⟨a_X,0,none⟩ = some (.slice Ao84 t306.length co84):=(a_l a_R.out 0).trans rfl;have l_I:=a_i a_R.out 0)|(go_at_call 24;(with_reducible refine (a_p.calls k2 _ _ t306 _ _ t311 false _ ?side1 ?side2 ?side3 ?side4 A62.out).mono ?_);(case side1 => refine (Kd.a_D (e:=56) (base:=w.heap.size) (ok:=fun k_ => (True ∧ some k_ ≠ (.slice Ao90 t311.length co90 : Value).ownBlock)) (n:=t306.length) (c:=co84) ?_).2.2;exact (by (with_reducible repeat (first|apply Kd.a_I|apply Kd.a_J|apply Kd.a_N));exact (Kd.a_O (Kd.b_g (p:=⟨a_1,0,none⟩) (Kd.a_L a_0.out b_z.out (by decide)) (fun _ hk => hk.2) (.slice Ao90 t311.length co90)) (fun _ h_ => h_.1))));(case side2 => exact (Kd.a_D a_0.out).2.1);(case side3 => refine (Kd.a_D (e:=56) (base:=w.heap.size) (ok:=fun k_ => (True ∧ some k_ ≠ (.slice Ao84 t306.length co84 : Value).ownBlock)) (n:=t311.length) (c:=co90) ?_).2.2;exact (by (with_reducible repeat (first|apply Kd.a_I|apply Kd.a_J|apply Kd.a_N));exact (Kd.a_O (Kd.b_g (p:=⟨a_1,0,none⟩) (Kd.a_L b_E.out b_z.out (by decide)) (fun _ hk => hk.2) (.slice Ao90 t311.length co90)) (fun _ h_ => h_.1))));(case side4 => exact (Kd.a_D b_E.out).2.1);rintro e w95 ⟨rfl,hb⟩;replace a_0:=a_b.mk (Kd.a_F (by (with_reducible repeat (first|apply Kd.a_I|apply Kd.a_J|apply Kd.a_N));exact (Kd.a_O (Kd.b_g (p:=⟨a_1,0,none⟩) (Kd.a_L a_0.out b_z.out (by decide)) (fun _ hk => hk.2) (.slice Ao90 t311.length co90)) (fun _ h_ => h_.1))) hb);replace b_E:=a_b.mk (Kd.a_F (by (with_reducible repeat (first|apply Kd.a_I|apply Kd.a_J|apply Kd.a_N));exact (Kd.a_O (Kd.b_g (p:=⟨a_1,0,none⟩) (Kd.a_L b_E.out b_z.out (by decide)) (fun _ hk => hk.2) (.slice Ao90 t311.length co90)) (fun _ h_ => h_.1))) hb);replace a_A:=a_b.mk (a_q (g:=a_M) (o:=.cells #[.int .i64 ((a_v l1 x72_2).f0),.int .i64 ((a_v l1 x72_2).f1),.int .i64 ((a_v l1 x72_2).f2)] 57 (0,0)) (by (with_reducible repeat (first|refine a_k ?_ _|refine a_m ?_|refine a_j ?_ _));refine a_W ?_ b_r.out _;(with_reducible repeat (first|refine a_k ?_ _|refine a_m ?_|refine a_j ?_ _));exact a_A.out) hb);replace a_R:=a_b.mk (a_q (g:=a_X) (o:=.cells #[.slice Ao84 t306.length co84] 24 (0,0)) (by (with_reducible repeat (first|refine a_k ?_ _|refine a_m ?_|refine a_j ?_ _));refine a_W ?_ b_s.out _;(with_reducible repeat (first|refine a_k ?_ _|refine a_m ?_|refine a_j ?_ _));exact a_R.out) hb);replace b_z:=a_b.mk (a_q (g:=a_1) (o:=.cells #[.slice Ao90 t311.length co90] 24 (0,0)) (by (with_reducible repeat (first|refine a_k ?_ _|refine a_m ?_|refine a_j ?_ _));refine a_K (cs:=#[.slice none 0 0]) ?_ 0 _ rfl;(with_reducible repeat (first|refine a_k ?_ _|refine a_m ?_|refine a_j ?_ _));exact b_z.out) hb);replace HB:=a_b.mk (a_n (by repeat (first|(with_reducible first|exact HB.out|apply a_e|apply a_a|apply a_f|refine a_d ?_ a_U.out|refine a_d ?_ b_v.out|refine a_d ?_ c_5.out)|exact HB.out)) hb);(try clear hb);(try clear hb2);(try clear hk);(try clear hi)))
      go_ret
      exact ⟨by first|rfl|(simp [a_s,a_t] <;> rfl)|(simp [*, a_s,a_t] <;> rfl),by repeat (first|(with_reducible first|exact HB.out|apply a_e|apply a_a|apply a_f|refine a_d ?_ a_U.out|refine a_d ?_ b_v.out|refine a_d ?_ c_5.out)|exact HB.out)⟩
     replace c61:=Bool.eq_false_iff.mpr c61
     subst c61
     have H1 : (if t309 = 2 then ((a_p.f k2 t306 t311).bind fun t317 => (if t317 = true then (a_c.l2 k2 l1 (l1.length : Int) (wrap64 (x72_2 + 1))) else (some false))) else (some false)) = some r:=by rw [if_neg (show ¬ (false = true) by decide)] at H;exact H
     clear H
     have H:=H1
     clear H1
     by_cases c96 : t309 = 2
     rotate_left
     ·rw [if_neg c96] at H
      have c96b0 : (t309 == 2) = false:=beq_eq_false_iff_ne.mpr c96
      have c96b1 : (t309 != 2) = true:=bne_iff_ne.mpr c96
      obtain rfl:=Option.some.inj H
      have p304 : 0 ≤ (x72_2 : Int):=of_decide_eq_true (by first|(with_reducible assumption)|assumption)
      have q304 : x72_2 < (l1.length : Int):=of_decide_eq_true (by first|(with_reducible assumption)|assumption)
      obtain ⟨ad304,e304,a_8,a_9,b_a⟩:=d_V HR1.out x72_2 p304 q304
      cases e304
      replace a_8:=(HB.out.cell (World.block_lt_of_cell? w _ a_8)).trans a_8
      replace a_9:=(HB.out.cell (World.block_lt_of_cell? w _ a_9)).trans a_9
      replace b_a:=(HB.out.cell (World.block_lt_of_cell? w _ b_a)).trans b_a
      replace p304:=eq_true p304
      replace q304:=eq_true q304
      go_wp2_with (first|((with_reducible refine a_z (N:=12) rfl ?_);(try (refine a_B (by rfl) ?_;dsimp only));refine a_x ?hg (N:=12) ?hd (cs:=#[.int .i64 0,.int .i64 0,.int .i64 0]) (t:=57) ?hr ?_;(case hd => rfl);(case hg => rfl);(case hr => first|(go_simp;done)|(go_simp;rfl));intro a_M hg w131 hbox hb;have a_A:=a_b.mk (hbox);have f_N:=a_b.mk ((by rw [hg];exact (a_h (lup_ HB.out)) : w.heap.size ≤ a_M));have a_U:=a_b.mk ((by rw [hg];exact (a_h (lup_ HB.out)) : w.heap.size ≤ a_M));replace HB:=a_b.mk (a_n (lup_ HB.out) hb);clear hb hbox hg;have j_c : w131.cell? ⟨a_M,0,none⟩ = some (.int .i64 0):=(a_l a_A.out 0).trans rfl;have j_d : w131.cell? ⟨a_M,1,none⟩ = some (.int .i64 0):=(a_l a_A.out 1).trans rfl;have j_e : w131.cell? ⟨a_M,2,none⟩ = some (.int .i64 0):=(a_l a_A.out 2).trans rfl;have j_C:=a_i a_A.out 0;have j_D:=a_i a_A.out 1;have j_E:=a_i a_A.out 2)|((with_reducible refine a_y (f:=26) rfl ?_);refine a_V (some 86) rfl rfl Tryd.func26 (by kernel_rfl) rfl #[.int .i64 ((a_v l1 x72_2).f0),.int .i64 ((a_v l1 x72_2).f1),.int .i64 ((a_v l1 x72_2).f2)] rfl (by (try simp only [List.map_toArray,List.map_cons,List.map_nil]);first|done|rfl|(simp only [List.length_drop,List.length_take];rfl)) ?_;(with_reducible refine (a_o.calls k2 ((a_v l1 x72_2).f0) ((a_v l1 x72_2).f1) ((a_v l1 x72_2).f2) t306 t309 _ A44.out).mono ?_);rintro e w133 ⟨v307,rfl,ho0,hb⟩;refine ⟨_,rfl,?_⟩;have a_0:=a_b.mk (Kd.a_3 ho0 (a_h (by repeat (first|(with_reducible first|exact HB.out|apply a_e|apply a_a|apply a_f|refine a_d ?_ a_U.out)|exact HB.out))));replace a_A:=a_b.mk (a_q (g:=a_M) (o:=.cells #[.int .i64 ((a_v l1 x72_2).f0),.int .i64 ((a_v l1 x72_2).f1),.int .i64 ((a_v l1 x72_2).f2)] 57 (0,0)) (by (with_reducible repeat (first|refine a_k ?_ _|refine a_m ?_|refine a_j ?_ _));refine a_K (cs:=#[.int .i64 ((a_v l1 x72_2).f0),.int .i64 ((a_v l1 x72_2).f1),.int .i64 0]) ?_ 2 _ rfl;(with_reducible repeat (first|refine a_k ?_ _|refine a_m ?_|refine a_j ?_ _));refine a_K (cs:=#[.int .i64 ((a_v l1 x72_2).f0),.int .i64 0,.int .i64 0]) ?_ 1 _ rfl;(with_reducible repeat (first|refine a_k ?_ _|refine a_m ?_|refine a_j ?_ _));refine a_K (cs:=#[.int .i64 0,.int .i64 0,.int .i64 0]) ?_ 0 _ rfl;(with_reducible repeat (first|refine a_k ?_ _|refine a_m ?_|refine a_j ?_ _));exact a_A.out) hb);replace HB:=a_b.mk (a_n (by repeat (first|(with_reducible first|exact HB.out|apply a_e|apply a_a|apply a_f|refine a_d ?_ a_U.out)|exact HB.out)) hb);(try clear hb);(try clear hb2);(try clear hk);(try clear hi);(try clear ho0))|((with_reducible refine a_z (N:=13) rfl ?_);(try (refine a_B (by rfl) ?_;dsimp only));refine a_x ?hg (N:=13) ?hd (cs:=#[.slice none 0 0]) (t:=24) ?hr ?_;(case hd => rfl);(case hg => rfl);(case hr => first|(go_simp;done)|(go_simp;rfl));intro a_X hg w134 hbox hb;have a_R:=a_b.mk (hbox);have f_4:=a_b.mk ((by rw [hg];exact (a_h (by repeat (first|(with_reducible first|exact HB.out|apply a_e|apply a_a|apply a_f|refine a_d ?_ a_U.out)|exact HB.out))) : w.heap.size ≤ a_X));have b_v:=a_b.mk ((by rw [hg];exact (a_h (by repeat (first|(with_reducible first|exact HB.out|apply a_e|apply a_a|apply a_f|refine a_d ?_ a_U.out)|exact HB.out))) : w.heap.size ≤ a_X));have b_f:=a_b.mk ((by rw [hg];exact Nat.ne_of_lt (a_E (bup_ a_A.out)) : a_M ≠ a_X));have b_V:=a_b.mk ((by rw [hg];exact Nat.ne_of_gt (a_E (bup_ a_A.out)) : a_X ≠ a_M));replace a_0:=a_b.mk (Kd.a_F (rup_ a_0.out) hb);replace a_A:=a_b.mk (a_q (bup_ a_A.out) hb);replace HB:=a_b.mk (a_n (by repeat (first|(with_reducible first|exact HB.out|apply a_e|apply a_a|apply a_f|refine a_d ?_ a_U.out)|exact HB.out)) hb);clear hb hbox hg;obtain ⟨h_x,h_J,j_X⟩:=Kd.a_4 a_0.out;subst j_X;have m_b:=b_V.out;have m_k:=b_f.out;have j_f : w134.cell? ⟨a_X,0,none⟩ = some (.slice none 0 0):=(a_l a_R.out 0).trans rfl;have j_F:=a_i a_R.out 0;have j_g : w134.cell? ⟨a_M,0,none⟩ = some (.int .i64 ((a_v l1 x72_2).f0)):=(a_l a_A.out 0).trans rfl;have j_h : w134.cell? ⟨a_M,1,none⟩ = some (.int .i64 ((a_v l1 x72_2).f1)):=(a_l a_A.out 1).trans rfl;have j_i : w134.cell? ⟨a_M,2,none⟩ = some (.int .i64 ((a_v l1 x72_2).f2)):=(a_l a_A.out 2).trans rfl;have j_G:=a_i a_A.out 0;have j_H:=a_i a_A.out 1;have j_I:=a_i a_A.out 2)|((with_reducible refine a_y (f:=27) rfl ?_);refine a_V (some 96) rfl rfl Tryd.func27 (by kernel_rfl) rfl #[.int .i64 ((a_v l1 x72_2).f0),.int .i64 ((a_v l1 x72_2).f1),.int .i64 ((a_v l1 x72_2).f2)] rfl (by (try simp only [List.map_toArray,List.map_cons,List.map_nil]);first|done|rfl|(simp only [List.length_drop,List.length_take];rfl)) ?_;(with_reducible refine (a_g.calls k2 ((a_v l1 x72_2).f0) ((a_v l1 x72_2).f1) ((a_v l1 x72_2).f2) t311 false _ A45.out).mono ?_);rintro e w139 ⟨v312,rfl,ho0,hb⟩;refine ⟨_,rfl,?_⟩;have b_E:=a_b.mk (Kd.a_3 (Kd.e_l ho0 (Kd.R_lt (by (with_reducible repeat (first|apply Kd.a_I|apply Kd.a_J|apply Kd.a_N));exact (Kd.a_O (Kd.b_g (p:=⟨a_X,0,none⟩) (Kd.a_L a_0.out a_R.out (by decide)) (fun _ hk => hk.2) (.slice h_x t306.length h_J)) (fun _ h_ => h_.1))))) (a_h (by repeat (first|(with_reducible first|exact HB.out|apply a_e|apply a_a|apply a_f|refine a_d ?_ a_U.out|refine a_d ?_ b_v.out)|exact HB.out))));replace a_0:=a_b.mk (Kd.c_U (by (with_reducible repeat (first|apply Kd.a_I|apply Kd.a_J|apply Kd.a_N));exact (Kd.a_O (Kd.b_g (p:=⟨a_X,0,none⟩) (Kd.a_L a_0.out a_R.out (by decide)) (fun _ hk => hk.2) (.slice h_x t306.length h_J)) (fun _ h_ => h_.1))) (Kd.e_k ho0) hb);replace a_A:=a_b.mk (a_q (g:=a_M) (o:=.cells #[.int .i64 ((a_v l1 x72_2).f0),.int .i64 ((a_v l1 x72_2).f1),.int .i64 ((a_v l1 x72_2).f2)] 57 (0,0)) (by (with_reducible repeat (first|refine a_k ?_ _|refine a_m ?_|refine a_j ?_ _));refine a_W ?_ b_f.out _;(with_reducible repeat (first|refine a_k ?_ _|refine a_m ?_|refine a_j ?_ _));exact a_A.out) hb);replace a_R:=a_b.mk (a_q (g:=a_X) (o:=.cells #[.slice h_x t306.length h_J] 24 (0,0)) (by (with_reducible repeat (first|refine a_k ?_ _|refine a_m ?_|refine a_j ?_ _));refine a_K (cs:=#[.slice none 0 0]) ?_ 0 _ rfl;(with_reducible repeat (first|refine a_k ?_ _|refine a_m ?_|refine a_j ?_ _));exact a_R.out) hb);replace HB:=a_b.mk (a_n (by repeat (first|(with_reducible first|exact HB.out|apply a_e|apply a_a|apply a_f|refine a_d ?_ a_U.out|refine a_d ?_ b_v.out)|exact HB.out)) hb);(try clear hb);(try clear hb2);(try clear hk);(try clear hi);(try clear ho0))|((with_reducible refine a_z (N:=15) rfl ?_);(try (refine a_B (by rfl) ?_;dsimp only));refine a_x ?hg (N:=15) ?hd (cs:=#[.slice none 0 0]) (t:=24) ?hr ?_;(case hd => rfl);(case hg => rfl);(case hr => first|(go_simp;done)|(go_simp;rfl));intro a_1 hg w140 hbox hb;have b_z:=a_b.mk (hbox);have f_5:=a_b.mk ((by rw [hg];exact (a_h (by repeat (first|(with_reducible first|exact HB.out|apply a_e|apply a_a|apply a_f|refine a_d ?_ a_U.out|refine a_d ?_ b_v.out)|exact HB.out))) : w.heap.size ≤ a_1));have c_5:=a_b.mk ((by rw [hg];exact (a_h (by repeat (first|(with_reducible first|exact HB.out|apply a_e|apply a_a|apply a_f|refine a_d ?_ a_U.out|refine a_d ?_ b_v.out)|exact HB.out))) : w.heap.size ≤ a_1));have b_r:=a_b.mk ((by rw [hg];exact Nat.ne_of_lt (a_E (bup_ a_A.out)) : a_M ≠ a_1));have b_W:=a_b.mk ((by rw [hg];exact Nat.ne_of_gt (a_E (bup_ a_A.out)) : a_1 ≠ a_M));have b_s:=a_b.mk ((by rw [hg];exact Nat.ne_of_lt (a_E (bup_ a_R.out)) : a_X ≠ a_1));have b_X:=a_b.mk ((by rw [hg];exact Nat.ne_of_gt (a_E (bup_ a_R.out)) : a_1 ≠ a_X));replace a_0:=a_b.mk (Kd.a_F (rup_ a_0.out) hb);replace b_E:=a_b.mk (Kd.a_F (rup_ b_E.out) hb);replace a_A:=a_b.mk (a_q (bup_ a_A.out) hb);replace a_R:=a_b.mk (a_q (bup_ a_R.out) hb);replace HB:=a_b.mk (a_n (by repeat (first|(with_reducible first|exact HB.out|apply a_e|apply a_a|apply a_f|refine a_d ?_ a_U.out|refine a_d ?_ b_v.out)|exact HB.out)) hb);clear hb hbox hg;obtain ⟨m_n,m_A,j_Y⟩:=Kd.a_4 b_E.out;subst j_Y;have m_c:=b_W.out;have m_l:=b_r.out;have m_d:=b_X.out;have m_m:=b_s.out;have j_j : w140.cell? ⟨a_1,0,none⟩ = some (.slice none 0 0):=(a_l b_z.out 0).trans rfl;have j_J:=a_i b_z.out 0))
      go_ret
      exact ⟨by first|rfl|(simp [a_s,a_t] <;> rfl)|(simp [*, a_s,a_t] <;> rfl),by repeat (first|(with_reducible first|exact HB.out|apply a_e|apply a_a|apply a_f|refine a_d ?_ a_U.out|refine a_d ?_ b_v.out|refine a_d ?_ c_5.out)|exact HB.out)⟩
     rw [if_pos c96] at H
     have c96b0 : (t309 == 2) = true:=beq_iff_eq.mpr c96
     have c96b1 : (t309 != 2) = false:=bne_eq_false_iff_eq.mpr c96
     clear c96
     replace H:=Option.bind_eq_some_iff.mp H
     obtain ⟨t317,A970,H⟩:=H
     replace H : (if t317 = true then (a_c.l2 k2 l1 (l1.length : Int) (wrap64 (x72_2 + 1))) else (some false)) = some r:=H
     have A97:=a_b.mk A970
     clear A970
     by_cases c98 : t317 = true
     ·subst c98
      have H1 : (a_c.l2 k2 l1 (l1.length : Int) (wrap64 (x72_2 + 1))) = some r:=by rw [if_pos rfl] at H;exact H
      clear H
      have H:=H1
      clear H1
      have H':=a_b.mk H
      clear H
      have p304 : 0 ≤ (x72_2 : Int):=of_decide_eq_true (by first|(with_reducible assumption)|assumption)
      have q304 : x72_2 < (l1.length : Int):=of_decide_eq_true (by first|(with_reducible assumption)|assumption)
      obtain ⟨ad304,e304,a_8,a_9,b_a⟩:=d_V HR1.out x72_2 p304 q304
      cases e304
      replace a_8:=(HB.out.cell (World.block_lt_of_cell? w _ a_8)).trans a_8
      replace a_9:=(HB.out.cell (World.block_lt_of_cell? w _ a_9)).trans a_9
      replace b_a:=(HB.out.cell (World.block_lt_of_cell? w _ b_a)).trans b_a
      replace p304:=eq_true p304
      replace q304:=eq_true q304
      go_wp2_with (first|((with_reducible refine a_z (N:=12) rfl ?_);(try (refine a_B (by rfl) ?_;dsimp only));refine a_x ?hg (N:=12) ?hd (cs:=#[.int .i64 0,.int .i64 0,.int .i64 0]) (t:=57) ?hr ?_;(case hd => rfl);(case hg => rfl);(case hr => first|(go_simp;done)|(go_simp;rfl));intro a_M hg w99 hbox hb;have a_A:=a_b.mk (hbox);have f_N:=a_b.mk ((by rw [hg];exact (a_h (lup_ HB.out)) : w.heap.size ≤ a_M));have a_U:=a_b.mk ((by rw [hg];exact (a_h (lup_ HB.out)) : w.heap.size ≤ a_M));replace HB:=a_b.mk (a_n (lup_ HB.out) hb);clear hb hbox hg;have i_U : w99.cell? ⟨a_M,0,none⟩ = some (.int .i64 0):=(a_l a_A.out 0).trans rfl;have i_V : w99.cell? ⟨a_M,1,none⟩ = some (.int .i64 0):=(a_l a_A.out 1).trans rfl;have i_W : w99.cell? ⟨a_M,2,none⟩ = some (.int .i64 0):=(a_l a_A.out 2).trans rfl;have j_k:=a_i a_A.out 0;have j_l:=a_i a_A.out 1;have j_m:=a_i a_A.out 2)|((with_reducible refine a_y (f:=26) rfl ?_);refine a_V (some 86) rfl rfl Tryd.func26 (by kernel_rfl) rfl #[.int .i64 ((a_v l1 x72_2).f0),.int .i64 ((a_v l1 x72_2).f1),.int .i64 ((a_v l1 x72_2).f2)] rfl (by (try simp only [List.map_toArray,List.map_cons,List.map_nil]);first|done|rfl|(simp only [List.length_drop,List.length_take];rfl)) ?_;(with_reducible refine (a_o.calls k2 ((a_v l1 x72_2).f0) ((a_v l1 x72_2).f1) ((a_v l1 x72_2).f2) t306 t309 _ A44.out).mono ?_);rintro e w101 ⟨v307,rfl,ho0,hb⟩;refine ⟨_,rfl,?_⟩;have a_0:=a_b.mk (Kd.a_3 ho0 (a_h (by repeat (first|(with_reducible first|exact HB.out|apply a_e|apply a_a|apply a_f|refine a_d ?_ a_U.out)|exact HB.out))));replace a_A:=a_b.mk (a_q (g:=a_M) (o:=.cells #[.int .i64 ((a_v l1 x72_2).f0),.int .i64 ((a_v l1 x72_2).f1),.int .i64 ((a_v l1 x72_2).f2)] 57 (0,0)) (by (with_reducible repeat (first|refine a_k ?_ _|refine a_m ?_|refine a_j ?_ _));refine a_K (cs:=#[.int .i64 ((a_v l1 x72_2).f0),.int .i64 ((a_v l1 x72_2).f1),.int .i64 0]) ?_ 2 _ rfl;(with_reducible repeat (first|refine a_k ?_ _|refine a_m ?_|refine a_j ?_ _));refine a_K (cs:=#[.int .i64 ((a_v l1 x72_2).f0),.int .i64 0,.int .i64 0]) ?_ 1 _ rfl;(with_reducible repeat (first|refine a_k ?_ _|refine a_m ?_|refine a_j ?_ _));refine a_K (cs:=#[.int .i64 0,.int .i64 0,.int .i64 0]) ?_ 0 _ rfl;(with_reducible repeat (first|refine a_k ?_ _|refine a_m ?_|refine a_j ?_ _));exact a_A.out) hb);replace HB:=a_b.mk (a_n (by repeat (first|(with_reducible first|exact HB.out|apply a_e|apply a_a|apply a_f|refine a_d ?_ a_U.out)|exact HB.out)) hb);(try clear hb);(try clear hb2);(try clear hk);(try clear hi);(try clear ho0))|((with_reducible refine a_z (N:=13) rfl ?_);(try (refine a_B (by rfl) ?_;dsimp only));refine a_x ?hg (N:=13) ?hd (cs:=#[.slice none 0 0]) (t:=24) ?hr ?_;(case hd => rfl);(case hg => rfl);(case hr => first|(go_simp;done)|(go_simp;rfl));intro a_X hg w102 hbox hb;have a_R:=a_b.mk (hbox);have f_4:=a_b.mk ((by rw [hg];exact (a_h (by repeat (first|(with_reducible first|exact HB.out|apply a_e|apply a_a|apply a_f|refine a_d ?_ a_U.out)|exact HB.out))) : w.heap.size ≤ a_X));have b_v:=a_b.mk ((by rw [hg];exact (a_h (by repeat (first|(with_reducible first|exact HB.out|apply a_e|apply a_a|apply a_f|refine a_d ?_ a_U.out)|exact HB.out))) : w.heap.size ≤ a_X));have b_f:=a_b.mk ((by rw [hg];exact Nat.ne_of_lt (a_E (bup_ a_A.out)) : a_M ≠ a_X));have b_V:=a_b.mk ((by rw [hg];exact Nat.ne_of_gt (a_E (bup_ a_A.out)) : a_X ≠ a_M));replace a_0:=a_b.mk (Kd.a_F (rup_ a_0.out) hb);replace a_A:=a_b.mk (a_q (bup_ a_A.out) hb);replace HB:=a_b.mk (a_n (by repeat (first|(with_reducible first|exact HB.out|apply a_e|apply a_a|apply a_f|refine a_d ?_ a_U.out)|exact HB.out)) hb);clear hb hbox hg;obtain ⟨f_H,f_c,j_T⟩:=Kd.a_4 a_0.out;subst j_T;have l_5:=b_V.out;have m_e:=b_f.out;have i_X : w102.cell? ⟨a_X,0,none⟩ = some (.slice none 0 0):=(a_l a_R.out 0).trans rfl;have j_n:=a_i a_R.out 0;have i_Y : w102.cell? ⟨a_M,0,none⟩ = some (.int .i64 ((a_v l1 x72_2).f0)):=(a_l a_A.out 0).trans rfl;have i_Z : w102.cell? ⟨a_M,1,none⟩ = some (.int .i64 ((a_v l1 x72_2).f1)):=(a_l a_A.out 1).trans rfl;have i_0 : w102.cell? ⟨a_M,2,none⟩ = some (.int .i64 ((a_v l1 x72_2).f2)):=(a_l a_A.out 2).trans rfl;have j_o:=a_i a_A.out 0;have j_p:=a_i a_A.out 1;have j_q:=a_i a_A.out 2)|((with_reducible refine a_y (f:=27) rfl ?_);refine a_V (some 96) rfl rfl Tryd.func27 (by kernel_rfl) rfl #[.int .i64 ((a_v l1 x72_2).f0),.int .i64 ((a_v l1 x72_2).f1),.int .i64 ((a_v l1 x72_2).f2)] rfl (by (try simp only [List.map_toArray,List.map_cons,List.map_nil]);first|done|rfl|(simp only [List.length_drop,List.length_take];rfl)) ?_;(with_reducible refine (a_g.calls k2 ((a_v l1 x72_2).f0) ((a_v l1 x72_2).f1) ((a_v l1 x72_2).f2) t311 false _ A45.out).mono ?_);rintro e w107 ⟨v312,rfl,ho0,hb⟩;refine ⟨_,rfl,?_⟩;have b_E:=a_b.mk (Kd.a_3 (Kd.e_l ho0 (Kd.R_lt (by (with_reducible repeat (first|apply Kd.a_I|apply Kd.a_J|apply Kd.a_N));exact (Kd.a_O (Kd.b_g (p:=⟨a_X,0,none⟩) (Kd.a_L a_0.out a_R.out (by decide)) (fun _ hk => hk.2) (.slice f_H t306.length f_c)) (fun _ h_ => h_.1))))) (a_h (by repeat (first|(with_reducible first|exact HB.out|apply a_e|apply a_a|apply a_f|refine a_d ?_ a_U.out|refine a_d ?_ b_v.out)|exact HB.out))));replace a_0:=a_b.mk (Kd.c_U (by (with_reducible repeat (first|apply Kd.a_I|apply Kd.a_J|apply Kd.a_N));exact (Kd.a_O (Kd.b_g (p:=⟨a_X,0,none⟩) (Kd.a_L a_0.out a_R.out (by decide)) (fun _ hk => hk.2) (.slice f_H t306.length f_c)) (fun _ h_ => h_.1))) (Kd.e_k ho0) hb);replace a_A:=a_b.mk (a_q (g:=a_M) (o:=.cells #[.int .i64 ((a_v l1 x72_2).f0),.int .i64 ((a_v l1 x72_2).f1),.int .i64 ((a_v l1 x72_2).f2)] 57 (0,0)) (by (with_reducible repeat (first|refine a_k ?_ _|refine a_m ?_|refine a_j ?_ _));refine a_W ?_ b_f.out _;(with_reducible repeat (first|refine a_k ?_ _|refine a_m ?_|refine a_j ?_ _));exact a_A.out) hb);replace a_R:=a_b.mk (a_q (g:=a_X) (o:=.cells #[.slice f_H t306.length f_c] 24 (0,0)) (by (with_reducible repeat (first|refine a_k ?_ _|refine a_m ?_|refine a_j ?_ _));refine a_K (cs:=#[.slice none 0 0]) ?_ 0 _ rfl;(with_reducible repeat (first|refine a_k ?_ _|refine a_m ?_|refine a_j ?_ _));exact a_R.out) hb);replace HB:=a_b.mk (a_n (by repeat (first|(with_reducible first|exact HB.out|apply a_e|apply a_a|apply a_f|refine a_d ?_ a_U.out|refine a_d ?_ b_v.out)|exact HB.out)) hb);(try clear hb);(try clear hb2);(try clear hk);(try clear hi);(try clear ho0))|((with_reducible refine a_z (N:=15) rfl ?_);(try (refine a_B (by rfl) ?_;dsimp only));refine a_x ?hg (N:=15) ?hd (cs:=#[.slice none 0 0]) (t:=24) ?hr ?_;(case hd => rfl);(case hg => rfl);(case hr => first|(go_simp;done)|(go_simp;rfl));intro a_1 hg w108 hbox hb;have b_z:=a_b.mk (hbox);have f_5:=a_b.mk ((by rw [hg];exact (a_h (by repeat (first|(with_reducible first|exact HB.out|apply a_e|apply a_a|apply a_f|refine a_d ?_ a_U.out|refine a_d ?_ b_v.out)|exact HB.out))) : w.heap.size ≤ a_1));have c_5:=a_b.mk ((by rw [hg];exact (a_h (by repeat (first|(with_reducible first|exact HB.out|apply a_e|apply a_a|apply a_f|refine a_d ?_ a_U.out|refine a_d ?_ b_v.out)|exact HB.out))) : w.heap.size ≤ a_1));have b_r:=a_b.mk ((by rw [hg];exact Nat.ne_of_lt (a_E (bup_ a_A.out)) : a_M ≠ a_1));have b_W:=a_b.mk ((by rw [hg];exact Nat.ne_of_gt (a_E (bup_ a_A.out)) : a_1 ≠ a_M));have b_s:=a_b.mk ((by rw [hg];exact Nat.ne_of_lt (a_E (bup_ a_R.out)) : a_X ≠ a_1));have b_X:=a_b.mk ((by rw [hg];exact Nat.ne_of_gt (a_E (bup_ a_R.out)) : a_1 ≠ a_X));replace a_0:=a_b.mk (Kd.a_F (rup_ a_0.out) hb);replace b_E:=a_b.mk (Kd.a_F (rup_ b_E.out) hb);replace a_A:=a_b.mk (a_q (bup_ a_A.out) hb);replace a_R:=a_b.mk (a_q (bup_ a_R.out) hb);replace HB:=a_b.mk (a_n (by repeat (first|(with_reducible first|exact HB.out|apply a_e|apply a_a|apply a_f|refine a_d ?_ a_U.out|refine a_d ?_ b_v.out)|exact HB.out)) hb);clear hb hbox hg;obtain ⟨f_I,f_d,j_U⟩:=Kd.a_4 b_E.out;subst j_U;have l_6:=b_W.out;have m_f:=b_r.out;have l_7:=b_X.out;have m_g:=b_s.out;have i_1 : w108.cell? ⟨a_1,0,none⟩ = some (.slice none 0 0):=(a_l b_z.out 0).trans rfl;have j_r:=a_i b_z.out 0;have i_2 : w108.cell? ⟨a_X,0,none⟩ = some (.slice f_H t306.length f_c):=(a_l a_R.out 0).trans rfl;have j_s:=a_i a_R.out 0)|(go_at_call 24;(with_reducible refine (a_p.calls k2 _ _ t306 _ _ t311 true _ ?side1 ?side2 ?side3 ?side4 A97.out).mono ?_);(case side1 => refine (Kd.a_D (e:=56) (base:=w.heap.size) (ok:=fun k_ => (True ∧ some k_ ≠ (.slice f_I t311.length f_d : Value).ownBlock)) (n:=t306.length) (c:=f_c) ?_).2.2;exact (by (with_reducible repeat (first|apply Kd.a_I|apply Kd.a_J|apply Kd.a_N));exact (Kd.a_O (Kd.b_g (p:=⟨a_1,0,none⟩) (Kd.a_L a_0.out b_z.out (by decide)) (fun _ hk => hk.2) (.slice f_I t311.length f_d)) (fun _ h_ => h_.1))));(case side2 => exact (Kd.a_D a_0.out).2.1);(case side3 => refine (Kd.a_D (e:=56) (base:=w.heap.size) (ok:=fun k_ => (True ∧ some k_ ≠ (.slice f_H t306.length f_c : Value).ownBlock)) (n:=t311.length) (c:=f_d) ?_).2.2;exact (by (with_reducible repeat (first|apply Kd.a_I|apply Kd.a_J|apply Kd.a_N));exact (Kd.a_O (Kd.b_g (p:=⟨a_1,0,none⟩) (Kd.a_L b_E.out b_z.out (by decide)) (fun _ hk => hk.2) (.slice f_I t311.length f_d)) (fun _ h_ => h_.1))));(case side4 => exact (Kd.a_D b_E.out).2.1);rintro e w114 ⟨rfl,hb⟩;replace a_0:=a_b.mk (Kd.a_F (by (with_reducible repeat (first|apply Kd.a_I|apply Kd.a_J|apply Kd.a_N));exact (Kd.a_O (Kd.b_g (p:=⟨a_1,0,none⟩) (Kd.a_L a_0.out b_z.out (by decide)) (fun _ hk => hk.2) (.slice f_I t311.length f_d)) (fun _ h_ => h_.1))) hb);replace b_E:=a_b.mk (Kd.a_F (by (with_reducible repeat (first|apply Kd.a_I|apply Kd.a_J|apply Kd.a_N));exact (Kd.a_O (Kd.b_g (p:=⟨a_1,0,none⟩) (Kd.a_L b_E.out b_z.out (by decide)) (fun _ hk => hk.2) (.slice f_I t311.length f_d)) (fun _ h_ => h_.1))) hb);replace a_A:=a_b.mk (a_q (g:=a_M) (o:=.cells #[.int .i64 ((a_v l1 x72_2).f0),.int .i64 ((a_v l1 x72_2).f1),.int .i64 ((a_v l1 x72_2).f2)] 57 (0,0)) (by (with_reducible repeat (first|refine a_k ?_ _|refine a_m ?_|refine a_j ?_ _));refine a_W ?_ b_r.out _;(with_reducible repeat (first|refine a_k ?_ _|refine a_m ?_|refine a_j ?_ _));exact a_A.out) hb);replace a_R:=a_b.mk (a_q (g:=a_X) (o:=.cells #[.slice f_H t306.length f_c] 24 (0,0)) (by (with_reducible repeat (first|refine a_k ?_ _|refine a_m ?_|refine a_j ?_ _));refine a_W ?_ b_s.out _;(with_reducible repeat (first|refine a_k ?_ _|refine a_m ?_|refine a_j ?_ _));exact a_R.out) hb);replace b_z:=a_b.mk (a_q (g:=a_1) (o:=.cells #[.slice f_I t311.length f_d] 24 (0,0)) (by (with_reducible repeat (first|refine a_k ?_ _|refine a_m ?_|refine a_j ?_ _));refine a_K (cs:=#[.slice none 0 0]) ?_ 0 _ rfl;(with_reducible repeat (first|refine a_k ?_ _|refine a_m ?_|refine a_j ?_ _));exact b_z.out) hb);replace HB:=a_b.mk (a_n (by repeat (first|(with_reducible first|exact HB.out|apply a_e|apply a_a|apply a_f|refine a_d ?_ a_U.out|refine a_d ?_ b_v.out|refine a_d ?_ c_5.out)|exact HB.out)) hb);(try clear hb);(try clear hb2);(try clear hk);(try clear hi)))
      go_roundg k2
      case measure => have:=HJ4.out;have:=HK2.out;omega
      case rel => exact ⟨(wrap64 (x72_2 + 1)),(by first|rfl|(simp;done)|(simp [*];done)),H',⟨by have:=HJ4.out;have:=HK2.out;omega⟩,⟨by repeat (first|(with_reducible first|exact HB.out|apply a_e|apply a_a|apply a_f|refine a_d ?_ a_U.out|refine a_d ?_ b_v.out|refine a_d ?_ c_5.out)|exact HB.out)⟩⟩
     replace c98:=Bool.eq_false_iff.mpr c98
     subst c98
     have H1 : (some false) = some r:=by rw [if_neg (show ¬ (false = true) by decide)] at H;exact H
     clear H
     have H:=H1
     clear H1
     obtain rfl:=Option.some.inj H
     have p304 : 0 ≤ (x72_2 : Int):=of_decide_eq_true (by first|(with_reducible assumption)|assumption)
     have q304 : x72_2 < (l1.length : Int):=of_decide_eq_true (by first|(with_reducible assumption)|assumption)
     obtain ⟨ad304,e304,a_8,a_9,b_a⟩:=d_V HR1.out x72_2 p304 q304
     cases e304
     replace a_8:=(HB.out.cell (World.block_lt_of_cell? w _ a_8)).trans a_8
     replace a_9:=(HB.out.cell (World.block_lt_of_cell? w _ a_9)).trans a_9
     replace b_a:=(HB.out.cell (World.block_lt_of_cell? w _ b_a)).trans b_a
     replace p304:=eq_true p304
     replace q304:=eq_true q304
     go_wp2_with (first|((with_reducible refine a_z (N:=12) rfl ?_);(try (refine a_B (by rfl) ?_;dsimp only));refine a_x ?hg (N:=12) ?hd (cs:=#[.int .i64 0,.int .i64 0,.int .i64 0]) (t:=57) ?hr ?_;(case hd => rfl);(case hg => rfl);(case hr => first|(go_simp;done)|(go_simp;rfl));intro a_M hg w115 hbox hb;have a_A:=a_b.mk (hbox);have f_N:=a_b.mk ((by rw [hg];exact (a_h (lup_ HB.out)) : w.heap.size ≤ a_M));have a_U:=a_b.mk ((by rw [hg];exact (a_h (lup_ HB.out)) : w.heap.size ≤ a_M));replace HB:=a_b.mk (a_n (lup_ HB.out) hb);clear hb hbox hg;have i_3 : w115.cell? ⟨a_M,0,none⟩ = some (.int .i64 0):=(a_l a_A.out 0).trans rfl;have i_4 : w115.cell? ⟨a_M,1,none⟩ = some (.int .i64 0):=(a_l a_A.out 1).trans rfl;have i_5 : w115.cell? ⟨a_M,2,none⟩ = some (.int .i64 0):=(a_l a_A.out 2).trans rfl;have j_t:=a_i a_A.out 0;have j_u:=a_i a_A.out 1;have j_v:=a_i a_A.out 2)|((with_reducible refine a_y (f:=26) rfl ?_);refine a_V (some 86) rfl rfl Tryd.func26 (by kernel_rfl) rfl #[.int .i64 ((a_v l1 x72_2).f0),.int .i64 ((a_v l1 x72_2).f1),.int .i64 ((a_v l1 x72_2).f2)] rfl (by (try simp only [List.map_toArray,List.map_cons,List.map_nil]);first|done|rfl|(simp only [List.length_drop,List.length_take];rfl)) ?_;(with_reducible refine (a_o.calls k2 ((a_v l1 x72_2).f0) ((a_v l1 x72_2).f1) ((a_v l1 x72_2).f2) t306 t309 _ A44.out).mono ?_);rintro e w117 ⟨v307,rfl,ho0,hb⟩;refine ⟨_,rfl,?_⟩;have a_0:=a_b.mk (Kd.a_3 ho0 (a_h (by repeat (first|(with_reducible first|exact HB.out|apply a_e|apply a_a|apply a_f|refine a_d ?_ a_U.out)|exact HB.out))));replace a_A:=a_b.mk (a_q (g:=a_M) (o:=.cells #[.int .i64 ((a_v l1 x72_2).f0),.int .i64 ((a_v l1 x72_2).f1),.int .i64 ((a_v l1 x72_2).f2)] 57 (0,0)) (by (with_reducible repeat (first|refine a_k ?_ _|refine a_m ?_|refine a_j ?_ _));refine a_K (cs:=#[.int .i64 ((a_v l1 x72_2).f0),.int .i64 ((a_v l1 x72_2).f1),.int .i64 0]) ?_ 2 _ rfl;(with_reducible repeat (first|refine a_k ?_ _|refine a_m ?_|refine a_j ?_ _));refine a_K (cs:=#[.int .i64 ((a_v l1 x72_2).f0),.int .i64 0,.int .i64 0]) ?_ 1 _ rfl;(with_reducible repeat (first|refine a_k ?_ _|refine a_m ?_|refine a_j ?_ _));refine a_K (cs:=#[.int .i64 0,.int .i64 0,.int .i64 0]) ?_ 0 _ rfl;(with_reducible repeat (first|refine a_k ?_ _|refine a_m ?_|refine a_j ?_ _));exact a_A.out) hb);replace HB:=a_b.mk (a_n (by repeat (first|(with_reducible first|exact HB.out|apply a_e|apply a_a|apply a_f|refine a_d ?_ a_U.out)|exact HB.out)) hb);(try clear hb);(try clear hb2);(try clear hk);(try clear hi);(try clear ho0))|((with_reducible refine a_z (N:=13) rfl ?_);(try (refine a_B (by rfl) ?_;dsimp only));refine a_x ?hg (N:=13) ?hd (cs:=#[.slice none 0 0]) (t:=24) ?hr ?_;(case hd => rfl);(case hg => rfl);(case hr => first|(go_simp;done)|(go_simp;rfl));intro a_X hg w118 hbox hb;have a_R:=a_b.mk (hbox);have f_4:=a_b.mk ((by rw [hg];exact (a_h (by repeat (first|(with_reducible first|exact HB.out|apply a_e|apply a_a|apply a_f|refine a_d ?_ a_U.out)|exact HB.out))) : w.heap.size ≤ a_X));have b_v:=a_b.mk ((by rw [hg];exact (a_h (by repeat (first|(with_reducible first|exact HB.out|apply a_e|apply a_a|apply a_f|refine a_d ?_ a_U.out)|exact HB.out))) : w.heap.size ≤ a_X));have b_f:=a_b.mk ((by rw [hg];exact Nat.ne_of_lt (a_E (bup_ a_A.out)) : a_M ≠ a_X));have b_V:=a_b.mk ((by rw [hg];exact Nat.ne_of_gt (a_E (bup_ a_A.out)) : a_X ≠ a_M));replace a_0:=a_b.mk (Kd.a_F (rup_ a_0.out) hb);replace a_A:=a_b.mk (a_q (bup_ a_A.out) hb);replace HB:=a_b.mk (a_n (by repeat (first|(with_reducible first|exact HB.out|apply a_e|apply a_a|apply a_f|refine a_d ?_ a_U.out)|exact HB.out)) hb);clear hb hbox hg;obtain ⟨f_J,f_e,j_V⟩:=Kd.a_4 a_0.out;subst j_V;have l_8:=b_V.out;have m_h:=b_f.out;have i_6 : w118.cell? ⟨a_X,0,none⟩ = some (.slice none 0 0):=(a_l a_R.out 0).trans rfl;have j_w:=a_i a_R.out 0;have i_7 : w118.cell? ⟨a_M,0,none⟩ = some (.int .i64 ((a_v l1 x72_2).f0)):=(a_l a_A.out 0).trans rfl;have i_8 : w118.cell? ⟨a_M,1,none⟩ = some (.int .i64 ((a_v l1 x72_2).f1)):=(a_l a_A.out 1).trans rfl;have i_9 : w118.cell? ⟨a_M,2,none⟩ = some (.int .i64 ((a_v l1 x72_2).f2)):=(a_l a_A.out 2).trans rfl;have j_x:=a_i a_A.out 0;have j_y:=a_i a_A.out 1;have j_z:=a_i a_A.out 2)|((with_reducible refine a_y (f:=27) rfl ?_);refine a_V (some 96) rfl rfl Tryd.func27 (by kernel_rfl) rfl #[.int .i64 ((a_v l1 x72_2).f0),.int .i64 ((a_v l1 x72_2).f1),.int .i64 ((a_v l1 x72_2).f2)] rfl (by (try simp only [List.map_toArray,List.map_cons,List.map_nil]);first|done|rfl|(simp only [List.length_drop,List.length_take];rfl)) ?_;(with_reducible refine (a_g.calls k2 ((a_v l1 x72_2).f0) ((a_v l1 x72_2).f1) ((a_v l1 x72_2).f2) t311 false _ A45.out).mono ?_);rintro e w123 ⟨v312,rfl,ho0,hb⟩;refine ⟨_,rfl,?_⟩;have b_E:=a_b.mk (Kd.a_3 (Kd.e_l ho0 (Kd.R_lt (by (with_reducible repeat (first|apply Kd.a_I|apply Kd.a_J|apply Kd.a_N));exact (Kd.a_O (Kd.b_g (p:=⟨a_X,0,none⟩) (Kd.a_L a_0.out a_R.out (by decide)) (fun _ hk => hk.2) (.slice f_J t306.length f_e)) (fun _ h_ => h_.1))))) (a_h (by repeat (first|(with_reducible first|exact HB.out|apply a_e|apply a_a|apply a_f|refine a_d ?_ a_U.out|refine a_d ?_ b_v.out)|exact HB.out))));replace a_0:=a_b.mk (Kd.c_U (by (with_reducible repeat (first|apply Kd.a_I|apply Kd.a_J|apply Kd.a_N));exact (Kd.a_O (Kd.b_g (p:=⟨a_X,0,none⟩) (Kd.a_L a_0.out a_R.out (by decide)) (fun _ hk => hk.2) (.slice f_J t306.length f_e)) (fun _ h_ => h_.1))) (Kd.e_k ho0) hb);replace a_A:=a_b.mk (a_q (g:=a_M) (o:=.cells #[.int .i64 ((a_v l1 x72_2).f0),.int .i64 ((a_v l1 x72_2).f1),.int .i64 ((a_v l1 x72_2).f2)] 57 (0,0)) (by (with_reducible repeat (first|refine a_k ?_ _|refine a_m ?_|refine a_j ?_ _));refine a_W ?_ b_f.out _;(with_reducible repeat (first|refine a_k ?_ _|refine a_m ?_|refine a_j ?_ _));exact a_A.out) hb);replace a_R:=a_b.mk (a_q (g:=a_X) (o:=.cells #[.slice f_J t306.length f_e] 24 (0,0)) (by (with_reducible repeat (first|refine a_k ?_ _|refine a_m ?_|refine a_j ?_ _));refine a_K (cs:=#[.slice none 0 0]) ?_ 0 _ rfl;(with_reducible repeat (first|refine a_k ?_ _|refine a_m ?_|refine a_j ?_ _));exact a_R.out) hb);replace HB:=a_b.mk (a_n (by repeat (first|(with_reducible first|exact HB.out|apply a_e|apply a_a|apply a_f|refine a_d ?_ a_U.out|refine a_d ?_ b_v.out)|exact HB.out)) hb);(try clear hb);(try clear hb2);(try clear hk);(try clear hi);(try clear ho0))|((with_reducible refine a_z (N:=15) rfl ?_);(try (refine a_B (by rfl) ?_;dsimp only));refine a_x ?hg (N:=15) ?hd (cs:=#[.slice none 0 0]) (t:=24) ?hr ?_;(case hd => rfl);(case hg => rfl);(case hr => first|(go_simp;done)|(go_simp;rfl));intro a_1 hg w124 hbox hb;have b_z:=a_b.mk (hbox);have f_5:=a_b.mk ((by rw [hg];exact (a_h (by repeat (first|(with_reducible first|exact HB.out|apply a_e|apply a_a|apply a_f|refine a_d ?_ a_U.out|refine a_d ?_ b_v.out)|exact HB.out))) : w.heap.size ≤ a_1));have c_5:=a_b.mk ((by rw [hg];exact (a_h (by repeat (first|(with_reducible first|exact HB.out|apply a_e|apply a_a|apply a_f|refine a_d ?_ a_U.out|refine a_d ?_ b_v.out)|exact HB.out))) : w.heap.size ≤ a_1));have b_r:=a_b.mk ((by rw [hg];exact Nat.ne_of_lt (a_E (bup_ a_A.out)) : a_M ≠ a_1));have b_W:=a_b.mk ((by rw [hg];exact Nat.ne_of_gt (a_E (bup_ a_A.out)) : a_1 ≠ a_M));have b_s:=a_b.mk ((by rw [hg];exact Nat.ne_of_lt (a_E (bup_ a_R.out)) : a_X ≠ a_1));have b_X:=a_b.mk ((by rw [hg];exact Nat.ne_of_gt (a_E (bup_ a_R.out)) : a_1 ≠ a_X));replace a_0:=a_b.mk (Kd.a_F (rup_ a_0.out) hb);replace b_E:=a_b.mk (Kd.a_F (rup_ b_E.out) hb);replace a_A:=a_b.mk (a_q (bup_ a_A.out) hb);replace a_R:=a_b.mk (a_q (bup_ a_R.out) hb);replace HB:=a_b.mk (a_n (by repeat (first|(with_reducible first|exact HB.out|apply a_e|apply a_a|apply a_f|refine a_d ?_ a_U.out|refine a_d ?_ b_v.out)|exact HB.out)) hb);clear hb hbox hg;obtain ⟨f_K,f_f,j_W⟩:=Kd.a_4 b_E.out;subst j_W;have l_9:=b_W.out;have m_i:=b_r.out;have m_a:=b_X.out;have m_j:=b_s.out;have j_a : w124.cell? ⟨a_1,0,none⟩ = some (.slice none 0 0):=(a_l b_z.out 0).trans rfl;have j_A:=a_i b_z.out 0;have j_b : w124.cell? ⟨a_X,0,none⟩ = some (.slice f_J t306.length f_e):=(a_l a_R.out 0).trans rfl;have j_B:=a_i a_R.out 0)|(go_at_call 24;(with_reducible refine (a_p.calls k2 _ _ t306 _ _ t311 false _ ?side1 ?side2 ?side3 ?side4 A97.out).mono ?_);(case side1 => refine (Kd.a_D (e:=56) (base:=w.heap.size) (ok:=fun k_ => (True ∧ some k_ ≠ (.slice f_K t311.length f_f : Value).ownBlock)) (n:=t306.length) (c:=f_e) ?_).2.2;exact (by (with_reducible repeat (first|apply Kd.a_I|apply Kd.a_J|apply Kd.a_N));exact (Kd.a_O (Kd.b_g (p:=⟨a_1,0,none⟩) (Kd.a_L a_0.out b_z.out (by decide)) (fun _ hk => hk.2) (.slice f_K t311.length f_f)) (fun _ h_ => h_.1))));(case side2 => exact (Kd.a_D a_0.out).2.1);(case side3 => refine (Kd.a_D (e:=56) (base:=w.heap.size) (ok:=fun k_ => (True ∧ some k_ ≠ (.slice f_J t306.length f_e : Value).ownBlock)) (n:=t311.length) (c:=f_f) ?_).2.2;exact (by (with_reducible repeat (first|apply Kd.a_I|apply Kd.a_J|apply Kd.a_N));exact (Kd.a_O (Kd.b_g (p:=⟨a_1,0,none⟩) (Kd.a_L b_E.out b_z.out (by decide)) (fun _ hk => hk.2) (.slice f_K t311.length f_f)) (fun _ h_ => h_.1))));(case side4 => exact (Kd.a_D b_E.out).2.1);rintro e w130 ⟨rfl,hb⟩;replace a_0:=a_b.mk (Kd.a_F (by (with_reducible repeat (first|apply Kd.a_I|apply Kd.a_J|apply Kd.a_N));exact (Kd.a_O (Kd.b_g (p:=⟨a_1,0,none⟩) (Kd.a_L a_0.out b_z.out (by decide)) (fun _ hk => hk.2) (.slice f_K t311.length f_f)) (fun _ h_ => h_.1))) hb);replace b_E:=a_b.mk (Kd.a_F (by (with_reducible repeat (first|apply Kd.a_I|apply Kd.a_J|apply Kd.a_N));exact (Kd.a_O (Kd.b_g (p:=⟨a_1,0,none⟩) (Kd.a_L b_E.out b_z.out (by decide)) (fun _ hk => hk.2) (.slice f_K t311.length f_f)) (fun _ h_ => h_.1))) hb);replace a_A:=a_b.mk (a_q (g:=a_M) (o:=.cells #[.int .i64 ((a_v l1 x72_2).f0),.int .i64 ((a_v l1 x72_2).f1),.int .i64 ((a_v l1 x72_2).f2)] 57 (0,0)) (by (with_reducible repeat (first|refine a_k ?_ _|refine a_m ?_|refine a_j ?_ _));refine a_W ?_ b_r.out _;(with_reducible repeat (first|refine a_k ?_ _|refine a_m ?_|refine a_j ?_ _));exact a_A.out) hb);replace a_R:=a_b.mk (a_q (g:=a_X) (o:=.cells #[.slice f_J t306.length f_e] 24 (0,0)) (by (with_reducible repeat (first|refine a_k ?_ _|refine a_m ?_|refine a_j ?_ _));refine a_W ?_ b_s.out _;(with_reducible repeat (first|refine a_k ?_ _|refine a_m ?_|refine a_j ?_ _));exact a_R.out) hb);replace b_z:=a_b.mk (a_q (g:=a_1) (o:=.cells #[.slice f_K t311.length f_f] 24 (0,0)) (by (with_reducible repeat (first|refine a_k ?_ _|refine a_m ?_|refine a_j ?_ _));refine a_K (cs:=#[.slice none 0 0]) ?_ 0 _ rfl;(with_reducible repeat (first|refine a_k ?_ _|refine a_m ?_|refine a_j ?_ _));exact b_z.out) hb);replace HB:=a_b.mk (a_n (by repeat (first|(with_reducible first|exact HB.out|apply a_e|apply a_a|apply a_f|refine a_d ?_ a_U.out|refine a_d ?_ b_v.out|refine a_d ?_ c_5.out)|exact HB.out)) hb);(try clear hb);(try clear hb2);(try clear hk);(try clear hi)))
     go_ret
     exact ⟨by first|rfl|(simp [a_s,a_t] <;> rfl)|(simp [*, a_s,a_t] <;> rfl),by repeat (first|(with_reducible first|exact HB.out|apply a_e|apply a_a|apply a_f|refine a_d ?_ a_U.out|refine a_d ?_ b_v.out|refine a_d ?_ c_5.out)|exact HB.out)⟩
end Go.Proofs.YtcpfcehfgenljaaDoor.Q
end
section
namespace Go.Proofs.YtcpfcehfgenljaaDoor.Pure
open Go.RowKit Go.Proofs.YtcpfcehfgenljaaDoor.Q Go.Proofs.YtcpfcehfgenljaaDoorW.PrintWords Go.Proofs.YtcpfcehfgenljaaDoorW.PrintLast Go.Proofs.YtcpfcehfgenljaaDoorW.PrintMore
set_option linter.unusedVariables false
set_option linter.unusedSimpArgs false
theorem c_A (n : Nat) (h : n < 9223372036854775807) : wrap64 ((n : Int) + 1) = ((n + 1 : Nat) : Int):=by unfold wrap64;omega
theorem rdm {l pre suf : List S56} {x : S56} (h : l = pre ++ x :: suf) : a_u l (pre.length : Int) = x:=by subst h;simp [a_u]
theorem i_m {α : Type} {l pre suf : List α} {x : α} (h : l = pre ++ x :: suf) : pre.length < l.length:=by subst h;simp
theorem f_s {α : Type} {l pre suf : List α} {x : α} (h : l = pre ++ x :: suf) : l = (pre ++ [x]) ++ suf:=by simp [h]
theorem g_M {α : Type} {pre : List α} {x : α} (h : pre.length < 1000000000) : wrap64 ((pre.length : Int) + 1) = ((pre ++ [x]).length : Int):=by rw [c_A pre.length (by omega)];simp
theorem h_v {α : Type} {l pre : List α} (h : l = pre ++ []) : pre.length = l.length:=by subst h;simp
theorem h_l : Ev (fun k => a_w.f k) true:=Ev.of a_w.mono (k:=100) (by kernel_rfl)
def eqv (x y : S56) : Bool:=x.f0 == y.f0 && (x.f1 == y.f1)
theorem h_M {x y : S56} : eqv x y = true ↔ x = y:=by
 unfold eqv
 simp only [Bool.and_eq_true,beq_iff_eq]
 constructor
 ·rintro ⟨h0,h1⟩;cases x;cases y;simp_all
 rintro rfl;exact ⟨rfl,rfl⟩
def eqL : List S56 → List S56 → Bool
 | [],[] => true
 | x :: a,y :: b => eqv x y && eqL a b
 | _,_ => false
theorem f_g : ∀ {a b : List S56}, eqL a b = true ↔ a = b
 | [],[] => by simp [eqL]
 | x :: a,y :: b => by rw [eqL,Bool.and_eq_true,h_M,f_g,List.cons_eq_cons]
 | [],y :: b => by simp [eqL]
 | x :: a,[] => by simp [eqL]
theorem h_L : ∀ {a b : List S56}, a.length ≠ b.length → eqL a b = false:=fun {a b} h => by
 cases e : eqL a b
 ·rfl
 ·exact absurd (congrArg List.length (f_g.1 e)) h
theorem g_S (A B : List S56) (hA : A.length ≤ 100000) : ∀ (a b p q : List S56),A = p ++ a → B = q ++ b → p.length = q.length → a.length = b.length → Ev (fun k => a_p.l0 k (A.length : Int) (p.length : Int) A B) (eqL a b)
 | [],[],p,q,h1,h2,h3,h4 => by
  have:=h_v h1
  refine Ev.step (f:=fun _ => some true) (fun k => ?_) (Ev.now _)
  rw [a_p.l0,if_neg (by omega)]
 | x :: a,y :: b,p,q,h1,h2,h3,h4 => by
  have i1:=i_m h1
  have i2:=i_m h2
  have ih:=g_S A B hA a b (p ++ [x]) (q ++ [y]) (f_s h1) (f_s h2) (by simp [h3]) (by simpa using h4)
  have r2 : a_u B (p.length : Int) = y:=by rw [h3];exact rdm h2
  refine Ev.step (f:=fun k => if eqv x y = true then a_p.l0 k (A.length : Int) ((p ++ [x]).length : Int) A B else some false) (fun k => ?_) ?_
  ·rw [a_p.l0,if_pos (by omega),if_pos (by omega),if_pos (by omega),if_pos (by omega),rdm h1,r2,g_M (x:=x) (by omega)]
   unfold eqv
   cases (x.f0 == y.f0) <;> cases (x.f1 == y.f1) <;> rfl
  ·rw [eqL]
   cases eqv x y
   ·exact Ev.now _
   ·simpa using ih
 | [],y :: b,p,q,h1,h2,h3,h4 => by simp at h4
 | x :: a,[],p,q,h1,h2,h3,h4 => by simp at h4
theorem i_n (A B : List S56) (hA : A.length ≤ 100000) : Ev (fun k => a_p.f k A B) (eqL A B):=by
 unfold a_p.f
 by_cases h : A.length = B.length
 ·simp only [if_pos (show (A.length : Int) = (B.length : Int) by omega)]
  exact g_S A B hA A B [] [] rfl rfl rfl h
 simp only [if_neg (show ¬ (A.length : Int) = (B.length : Int) by omega),h_L h]
 exact Ev.now _
theorem g_J (l : List S56) : okT l = (decide (1 ≤ l.length) && decide (l.length ≤ 8) && !l.any d_6):=rfl
theorem f_F (l : List S56) (hl : l.length ≤ 100000) : ∀ (suf pre : List S56),l = pre ++ suf → Ev (fun k => a_r.l0 k l (l.length : Int) (pre.length : Int) l) (!suf.any d_6 && (decide (1 ≤ l.length) && decide (l.length ≤ 8)))
 | [],pre,h => by
  have:=h_v h
  refine Ev.step (f:=fun _ => some (decide (1 ≤ l.length) && decide (l.length ≤ 8))) (fun k => ?_) (by simpa using Ev.now _)
  rw [a_r.l0,if_neg (by omega)]
  by_cases h1 : 1 ≤ l.length
  ·rw [if_pos (by omega),decide_eq_true h1,Bool.true_and];congr 1;rw [decide_eq_decide];omega
  ·rw [if_neg (by omega),decide_eq_false h1,Bool.false_and]
 | x :: suf,pre,h => by
  have hlt:=i_m h
  have ih:=f_F l hl suf (pre ++ [x]) (f_s h)
  refine Ev.step (f:=fun k => if d_6 x = true then some false else a_r.l0 k l (l.length : Int) ((pre ++ [x]).length : Int) l) (fun k => ?_) ?_
  ·rw [a_r.l0,if_pos (by omega),if_pos (by omega),if_pos (by omega),rdm h,g_M (x:=x) (by omega)]
   unfold d_6
   by_cases c0 : x.f0 < 0
   ·rw [if_pos c0,decide_eq_true c0];rfl
   by_cases c1 : x.f0 ≥ 4
   ·rw [if_neg c0,if_pos c1,decide_eq_true c1,Bool.or_true];rfl
   by_cases c2 : x.f1 < 0
   ·rw [if_neg c0,if_neg c1,if_pos c2,decide_eq_true c2,Bool.or_true];rfl
   rw [if_neg c0,if_neg c1,if_neg c2,decide_eq_false c0,decide_eq_false c1,decide_eq_false c2]
   by_cases c3 : x.f1 ≥ 8
   ·rw [if_pos c3,decide_eq_true c3];rfl
   ·rw [if_neg c3,decide_eq_false c3];rfl
  ·rw [List.any_cons]
   cases d_6 x
   ·simpa using ih
   ·exact Ev.now _
theorem h_h (l : List S56) (hl : l.length ≤ 100000) : Ev (fun k => a_r.f k l) (okT l):=by
 unfold a_r.f
 have:=f_F l hl l [] rfl
 rw [g_J,Bool.and_comm]
 exact this
end Go.Proofs.YtcpfcehfgenljaaDoor.Pure
end
section
namespace Go.Proofs.YtcpfcehfgenljaaDoor.Pure
open Go.RowKit Go.Proofs.YtcpfcehfgenljaaDoor.Q Go.Proofs.YtcpfcehfgenljaaDoorW.PrintWords Go.Proofs.YtcpfcehfgenljaaDoorW.PrintLast Go.Proofs.YtcpfcehfgenljaaDoorW.PrintMore
set_option linter.unusedVariables false
set_option linter.unusedSimpArgs false
def h_t (s c t : Int) : Bool:=match a_o.f 60 s c t,a_g.f 100 s c t with
 | some (a,e),some (b,ok) => (ok == (e == 0)) && (ok || (e == 2)) && eqL a b && decide (a.length ≤ 100000)
 | _,_ => false
theorem f_U : ∀ (s : Fin 4) (c : Fin 8) (t : Fin 8),(s.val + 1) * ((c.val + 1) * (t.val + 1)) ≤ 8 → h_t ((s.val + 1 : Nat) : Int) ((c.val + 1 : Nat) : Int) ((t.val + 1 : Nat) : Int) = true:=by decide +kernel
theorem h_b : ∀ (s : Fin 4) (c : Fin 8) (t : Fin 8),8 < (s.val + 1) * ((c.val + 1) * (t.val + 1)) → ¬ wrap64 (((s.val + 1 : Nat) : Int) * ((c.val + 1 : Nat) : Int)) = 0 ∧ ((t.val + 1 : Nat) : Int) > wrap64 (8 / wrap64 (((s.val + 1 : Nat) : Int) * ((c.val + 1 : Nat) : Int))):=by decide +kernel
theorem g_Q (s c t : Nat) (s' c' : Nat) (res : List S56 × Bool) : ∀ (m j : Nat) (out : List S56),j + m = t → t ≤ 8 → out.length + m ≤ 10000 → (∀ out' : List S56,out'.length = out.length + m → Ev (fun k => a_g.l1 k (c : Int) (t : Int) (s' : Int) (s : Int) (s' : Int) (c : Int) (wrap64 ((c' : Int) + 1)) out') res) →
 Ev (fun k => a_g.l2 k (c : Int) (t : Int) (s' : Int) (c' : Int) (s : Int) (s' : Int) (c : Int) (c' : Int) (t : Int) (j : Int) out) res
 | 0,j,out,h,ht,ho,hR => by
  refine Ev.step (fun k => ?_) (hR out rfl)
  rw [a_g.l2,if_neg (by omega)]
 | m + 1,j,out,h,ht,ho,hR => by
  refine Ev.step (fun k => by rw [a_g.l2,if_pos (by omega),if_pos (by omega),c_A j (by omega)]) ?_
  exact g_Q s c t s' c' res m (j + 1) _ (by omega) ht (by rw [List.length_append,List.length_singleton];omega) (fun out' ho' => hR out' (by rw [ho',List.length_append,List.length_singleton];omega))
theorem g_P (s c t : Nat) (s' : Nat) (res : List S56 × Bool) (ht : t ≤ 8) (hc : c ≤ 8) : ∀ (m c' : Nat) (out : List S56),c' + m = c → out.length + m * t ≤ 10000 → (∀ out' : List S56,out'.length = out.length + m * t → Ev (fun k => a_g.l0 k (c : Int) (t : Int) (s : Int) (wrap64 ((s' : Int) + 1)) out') res) →
 Ev (fun k => a_g.l1 k (c : Int) (t : Int) (s' : Int) (s : Int) (s' : Int) (c : Int) (c' : Int) out) res
 | 0,c',out,h,ho,hR => by
  refine Ev.step (fun k => ?_) (hR out (by omega))
  rw [a_g.l1,if_neg (by omega)]
 | m + 1,c',out,h,ho,hR => by
  rw [Nat.succ_mul] at ho
  refine Ev.step (fun k => by rw [a_g.l1,if_pos (by omega)]) ?_
  refine g_Q s c t s' c' res t 0 out (by omega) ht (by omega) (fun out' ho' => ?_)
  rw [c_A c' (by omega)]
  exact g_P s c t s' res ht hc m (c' + 1) out' (by omega) (by omega) (fun o2 h2 => hR o2 (by rw [h2,ho',Nat.succ_mul];omega))
theorem g_O (s c t : Nat) (ht : t ≤ 8) (hc : c ≤ 8) (hs : s ≤ 4) : ∀ (m s' : Nat) (out : List S56),s' + m = s → out.length + m * (c * t) ≤ 10000 → 8 < out.length + m * (c * t) → Ev (fun k => a_g.l0 k (c : Int) (t : Int) (s : Int) (s' : Int) out) ([],false)
 | 0,s',out,h,ho,h8 => by
  refine Ev.step (fun k => by rw [a_g.l0,if_neg (by omega)]) ?_
  have hbad : okT out = false:=by rw [g_J,decide_eq_false (show ¬ out.length ≤ 8 by omega),Bool.and_false,Bool.false_and]
  have:=h_h out (by omega)
  rw [hbad] at this
  exact Ev.bind this (Ev.now _)
 | m + 1,s',out,h,ho,h8 => by
  rw [Nat.succ_mul] at ho h8
  refine Ev.step (fun k => by rw [a_g.l0,if_pos (by omega)]) ?_
  refine g_P s c t s' _ ht hc c 0 out (by omega) (by omega) (fun out' ho' => ?_)
  rw [c_A s' (by omega)]
  exact g_O s c t ht hc hs m (s' + 1) out' (by omega) (by omega) (by omega)
theorem g_R (s c t : Nat) (h1 : 1 ≤ s ∧ s ≤ 4) (h2 : 1 ≤ c ∧ c ≤ 8) (h3 : 1 ≤ t ∧ t ≤ 8) (h : 8 < s * (c * t)) : Ev (fun k => a_g.f k (s : Int) (c : Int) (t : Int)) ([],false):=by
 have hb : s * (c * t) ≤ 4 * (8 * 8):=Nat.mul_le_mul h1.2 (Nat.mul_le_mul h2.2 h3.2)
 unfold a_g.f
 simp only [if_neg (show ¬ (s : Int) < 1 by omega),if_neg (show ¬ (s : Int) > 4 by omega),if_neg (show ¬ (c : Int) < 1 by omega),if_neg (show ¬ (c : Int) > 8 by omega),if_neg (show ¬ (t : Int) < 1 by omega),decide_eq_false (show ¬ (t : Int) > 8 by omega)]
 refine Ev.step (fun k => ?_) (g_O s c t h3.2 h2.2 h1.2 s 0 [] (by omega) (by simp;omega) (by simpa using h))
 rw [a_g.j0,if_neg (by decide)]
 rfl
theorem h_i (s c t : Nat) (h1 : 1 ≤ s ∧ s ≤ 4) (h2 : 1 ≤ c ∧ c ≤ 8) (h3 : 1 ≤ t ∧ t ≤ 8) (h : 8 < s * (c * t)) : Ev (fun k => a_o.f k (s : Int) (c : Int) (t : Int)) ([],2):=by
 have:=h_b ⟨s - 1,by omega⟩ ⟨c - 1,by omega⟩ ⟨t - 1,by omega⟩
 simp only [show s - 1 + 1 = s by omega,show c - 1 + 1 = c by omega,show t - 1 + 1 = t by omega] at this
 obtain ⟨g1,g2⟩:=this h
 unfold a_o.f
 simp only [if_neg (show ¬ (s : Int) < 1 by omega),if_neg (show ¬ (s : Int) > 4 by omega),if_neg (show ¬ (c : Int) < 1 by omega),if_neg (show ¬ (c : Int) > 8 by omega),if_neg (show ¬ (t : Int) < 1 by omega),if_neg g1,decide_eq_true g2]
 refine Ev.step (f:=fun _ => some ([],2)) (fun k => ?_) (Ev.now _)
 rw [a_o.j0,if_pos rfl]
theorem g_N {s c t : Int} (h : s < 1 ∨ s > 4 ∨ c < 1 ∨ c > 8 ∨ t < 1 ∨ t > 8) : Ev (fun k => a_o.f k s c t) ([],2):=by
 have hj : Ev (fun k => a_o.j0 k s c t true) ([],2):=by
  refine Ev.step (f:=fun _ => some ([],2)) (fun k => ?_) (Ev.now _)
  rw [a_o.j0,if_pos rfl]
 unfold a_o.f
 by_cases h0 : s < 1
 ·simpa only [if_pos h0] using hj
 by_cases h1 : s > 4
 ·simpa only [if_neg h0,if_pos h1] using hj
 by_cases h2 : c < 1
 ·simpa only [if_neg h0,if_neg h1,if_pos h2] using hj
 by_cases h3 : c > 8
 ·simpa only [if_neg h0,if_neg h1,if_neg h2,if_pos h3] using hj
 by_cases h4 : t < 1
 ·simpa only [if_neg h0,if_neg h1,if_neg h2,if_neg h3,if_pos h4] using hj
 have h5 : t > 8:=by omega
 have hb : ∀ (a : Fin 4) (b : Fin 8), ¬ wrap64 (((a.val + 1 : Nat) : Int) * ((b.val + 1 : Nat) : Int)) = 0 ∧ wrap64 (8 / wrap64 (((a.val + 1 : Nat) : Int) * ((b.val + 1 : Nat) : Int))) ≤ 8:=by decide +kernel
 have e1 : s = (((s - 1).toNat + 1 : Nat) : Int):=by omega
 have e2 : c = (((c - 1).toNat + 1 : Nat) : Int):=by omega
 have:=hb ⟨(s - 1).toNat,by omega⟩ ⟨(c - 1).toNat,by omega⟩
 simp only at this
 rw [← e1, ← e2] at this
 simp only [if_neg h0,if_neg h1,if_neg h2,if_neg h3,if_neg h4,if_neg this.1,decide_eq_true (show t > wrap64 (8 / wrap64 (s * c)) by omega)]
 exact hj
theorem h_k {s c t : Int} (h : s < 1 ∨ s > 4 ∨ c < 1 ∨ c > 8 ∨ t < 1 ∨ t > 8) : Ev (fun k => a_g.f k s c t) ([],false):=by
 have hj : Ev (fun k => a_g.j0 k s c t true) ([],false):=by
  refine Ev.step (f:=fun _ => some ([],false)) (fun k => ?_) (Ev.now _)
  rw [a_g.j0,if_pos rfl]
 unfold a_g.f
 by_cases h0 : s < 1
 ·simpa only [if_pos h0] using hj
 by_cases h1 : s > 4
 ·simpa only [if_neg h0,if_pos h1] using hj
 by_cases h2 : c < 1
 ·simpa only [if_neg h0,if_neg h1,if_pos h2] using hj
 by_cases h3 : c > 8
 ·simpa only [if_neg h0,if_neg h1,if_neg h2,if_pos h3] using hj
 by_cases h4 : t < 1
 ·simpa only [if_neg h0,if_neg h1,if_neg h2,if_neg h3,if_pos h4] using hj
 have h5 : t > 8:=by omega
 simp only [if_neg h0,if_neg h1,if_neg h2,if_neg h3,if_neg h4,decide_eq_true h5]
 exact hj
theorem g_G (s c t : Int) : ∃ (a b : List S56) (e : Int) (ok : Bool),Ev (fun k => a_o.f k s c t) (a,e) ∧ Ev (fun k => a_g.f k s c t) (b,ok) ∧ ok = (e == 0) ∧ (ok = false → e = 2) ∧ eqL a b = true ∧ a.length ≤ 100000:=by
 by_cases h : s < 1 ∨ s > 4 ∨ c < 1 ∨ c > 8 ∨ t < 1 ∨ t > 8
 ·exact ⟨_,_,_,_,g_N h,h_k h,rfl,fun _ => rfl,rfl,by simp⟩
 obtain ⟨s,rfl⟩ : ∃ n : Nat,s = (n : Int):=⟨s.toNat,by omega⟩
 obtain ⟨c,rfl⟩ : ∃ n : Nat,c = (n : Int):=⟨c.toNat,by omega⟩
 obtain ⟨t,rfl⟩ : ∃ n : Nat,t = (n : Int):=⟨t.toNat,by omega⟩
 by_cases h8 : 8 < s * (c * t)
 ·exact ⟨_,_,_,_,h_i s c t (by omega) (by omega) (by omega) h8,g_R s c t (by omega) (by omega) (by omega) h8,rfl,fun _ => rfl,rfl,by simp⟩
 have:=f_U ⟨s - 1,by omega⟩ ⟨c - 1,by omega⟩ ⟨t - 1,by omega⟩
 simp only [show s - 1 + 1 = s by omega,show c - 1 + 1 = c by omega,show t - 1 + 1 = t by omega] at this
 have:=this (by omega)
 unfold h_t at this
 split at this
 ·next a e b ok h1 h2 =>
  simp only [Bool.and_eq_true,decide_eq_true_eq,beq_iff_eq,Bool.or_eq_true] at this
  obtain ⟨⟨⟨g1,g2⟩,g3⟩,g4⟩:=this
  refine ⟨a,b,e,ok,Ev.of (a_o.mono _ _ _) h1,Ev.of (a_g.mono _ _ _) h2,g1,fun hk => ?_,g3,g4⟩
  rcases g2 with g2|g2
  ·rw [hk] at g2;cases g2
  exact g2
 cases this
theorem f_B (R : List S57) : ∀ n i : Nat,i + n = 20 → Ev (fun k => a_c.l2 k R (R.length : Int) (i : Int)) true
 | n,i,h => by
  by_cases hlt : i < R.length
  ·cases n with
   | zero =>
    refine Ev.step (f:=fun _ => some true) (fun k => ?_) (Ev.now _)
    rw [a_c.l2,if_pos (by omega),if_pos (by omega),if_pos (by omega),if_pos (by omega)]
   | succ n =>
    have ih:=f_B R n (i + 1) (by omega)
    obtain ⟨a,b,e,ok,h1,h2,h3,h4,h5,h6⟩:=g_G (a_v R (i : Int)).f0 (a_v R (i : Int)).f1 (a_v R (i : Int)).f2
    refine Ev.step (fun k => by rw [a_c.l2,if_pos (by omega),if_pos (by omega),if_pos (by omega),if_neg (by omega),c_A i (by omega)]) ?_
    refine Ev.bind h1 (Ev.bind h2 ?_)
    have hs:=i_n a b h6
    rw [h5] at hs
    simp only [h3,bne_self_eq_false,Bool.false_eq_true,if_false]
    cases hk : ok
    ·rw [hk] at h3
     have he:=h4 hk
     subst he
     simp only [show ((2 : Int) == 0) = false by decide,Bool.false_eq_true,if_false,if_true]
     exact Ev.bind hs ih
    ·rw [hk] at h3
     simp only [← h3,if_true]
     exact Ev.bind hs ih
  ·refine Ev.step (f:=fun _ => some true) (fun k => ?_) (Ev.now _)
   rw [a_c.l2,if_neg (by omega)]
theorem f_z (R : List S57) : Ev (fun k => a_c.j4 k R) true:=by
 refine Ev.step (fun k => ?_) (f_B R 20 0 rfl)
 rw [a_c.j4];rfl
def e_D (n : Nat) : List S56:=(List.range n).map fun i : Nat => ⟨0,(i : Int)⟩
theorem g_7 : ∀ n : Fin 8,(match a_o.f 300 1 ((n.val + 1 : Nat) : Int) 1 with|some (a,e) => eqL a (e_D (n.val + 1)) && (e == 0)|none => false) = true:=by decide +kernel
theorem h_N (n : Nat) (h1 : 1 ≤ n) (h8 : n ≤ 8) : Ev (fun k => a_T.f k (n : Int)) (e_D n,0):=by
 have:=g_7 ⟨n - 1,by omega⟩
 simp only [show n - 1 + 1 = n by omega] at this
 split at this
 ·next a e h =>
  simp only [Bool.and_eq_true,beq_iff_eq] at this
  obtain ⟨g1,rfl⟩:=this
  obtain rfl:=f_g.1 g1
  unfold a_T.f
  exact Ev.bind (Ev.of (a_o.mono _ _ _) h) (Ev.now _)
 cases this
theorem f_y {n : Int} (h : n < 1 ∨ n > 8) : Ev (fun k => a_T.f k n) ([],2):=by
 unfold a_T.f
 exact Ev.bind (g_N (by omega)) (Ev.now _)
theorem g_m (R : List S57) (C : List Int) (x20 x21 : Int) (hR : Ev (fun k => a_c.l0 k R C x20 (wrap64 (x21 + 1))) true) (n : Nat) (hn : n ≤ 8) : ∀ m i : Nat,i + m = n → Ev (fun k => a_c.l1 k R C x20 x21 (e_D n) (n : Int) (i : Int)) true
 | 0,i,h => by
  refine Ev.step (fun k => ?_) hR
  rw [a_c.l1,if_neg (by omega)]
 | m + 1,i,h => by
  have ih:=g_m R C x20 x21 hR n hn m (i + 1) (by omega)
  have hl : (e_D n).length = n:=by simp [e_D]
  have hr : a_u (e_D n) (i : Int) = ⟨0,(i : Int)⟩:=by unfold a_u e_D;simp [show i < n by omega]
  refine Ev.step (fun k => ?_) ih
  rw [a_c.l1,if_pos (by omega),if_pos (by omega),if_pos (by omega),hr,c_A i (by omega)]
  simp
theorem f_A (R : List S57) (C : List Int) : ∀ n i : Nat,i + n = 20 → Ev (fun k => a_c.l0 k R C (C.length : Int) (i : Int)) true
 | n,i,h => by
  by_cases hlt : i < C.length
  ·cases n with
   | zero =>
    refine Ev.step (fun k => ?_) (f_z R)
    rw [a_c.l0,if_pos (by omega),if_pos (by omega),if_pos (by omega),if_pos (by omega)]
   | succ n =>
    have ih:=f_A R C n (i + 1) (by omega)
    refine Ev.step (fun k => by rw [a_c.l0,if_pos (by omega),if_pos (by omega),if_pos (by omega),if_neg (by omega)]) ?_
    generalize rd C (i : Int) = c
    have hbad : Ev (fun k => a_c.j1 k R c 2 C (C.length : Int) (i : Int) true []) true:=by
     refine Ev.step (fun k => ?_) ih
     rw [a_c.j1,if_pos rfl,if_pos rfl,c_A i (by omega)]
     rfl
    by_cases h1 : c < 1
    ·refine Ev.bind (f_y (.inl h1)) ?_
     simp only [if_pos h1]
     exact hbad
    ·by_cases h8 : c > 8
     ·refine Ev.bind (f_y (.inr h8)) ?_
      simp only [if_neg h1,decide_eq_true h8]
      exact hbad
     ·obtain ⟨m,rfl⟩ : ∃ m : Nat,c = (m : Int):=⟨c.toNat,by omega⟩
      have hl : (e_D m).length = m:=by simp [e_D]
      refine Ev.bind (h_N m (by omega) (by omega)) ?_
      simp only [if_neg h1,decide_eq_false h8]
      refine Ev.step (fun k => by rw [a_c.j1,if_neg (by decide),if_pos rfl,hl]) ?_
      refine Ev.step (fun k => ?_) (g_m R C (C.length : Int) (i : Int) (by rw [c_A i (by omega)];exact ih) m (by omega) m 0 (by omega))
      rw [a_c.j2,if_neg (by simp),hl]
      rfl
  ·refine Ev.step (fun k => ?_) (f_z R)
   rw [a_c.l0,if_neg (by omega)]
theorem e_P (C : List Int) (R : List S57) (h1 : C.length ≤ maxLen ∧ ∀ x ∈ C,(Lit.int .i64 x).wf = true) (h2 : R.length ≤ maxLen ∧ ∀ x ∈ R,wf57 x) : ∃ k,a_c.f k C R = some true:=by
 refine Ev.rounds (g:=fun k => a_c.f k C R) (Ev.bind h_l ?_)
 simp only [if_true]
 exact f_A R C 20 0 rfl
end Go.Proofs.YtcpfcehfgenljaaDoor.Pure
end
section
namespace Go.Proofs.YtcpfcehfgenljaaDoor.topoMakes
open Go.ChangeShapes Go.WideShapes Go.ChangeAt Go.RowKit Go.Proofs.YtcpfcehfgenljaaDoor.Q
open Go.Proofs.YtcpfcehfgenljaaDoorW.PrintWords Go.Proofs.YtcpfcehfgenljaaDoorW.PrintLast Go.Proofs.YtcpfcehfgenljaaDoorW.PrintMore
set_option linter.unusedVariables false
set_option linter.unusedSimpArgs false
theorem i_P {W : World} (h : laidMetH Tryd.prog Rows.topoMakesRow.laid W) : b_Y W:=by
 rw [MakeChecks.laidMetH_plain _ _ _ (by kernel_rfl)] at h
 have h' : laidMet Tryd.prog [("math/bits.deBruijn32tab", Lib.tabData .u8 (Lib.deBruijn32tab.map fun n : Nat => (n : Int)))] W := h
 have ht:=Lib.tabIs_of_head (g:=0) (by kernel_rfl) (by kernel_rfl) Tryd.underlying97 Tryd.underlying5 (by kernel_rfl) (by kernel_rfl) h'
 intro j hj
 have hc:=ht.cell (g:=0) (by kernel_rfl) j (by simpa using hj)
 rw [hc]
 simp only [List.getD_eq_getElem?_getD,List.getElem?_map]
 rw [List.getElem?_eq_getElem hj]
 rfl
theorem g_3 (os : Os) (args : Array Value) : laidMetH Tryd.prog Rows.topoMakesRow.laid ((World.doorLaid Tryd.prog 14 os).forCall (fun _ _ => 0) ⟨#[],args,[]⟩).memory :=
 laidMetH_of_parts3 (fuel:=8) (laidMet_of_run' 8 (by kernel_rfl) (by kernel_rfl)) (by kernel_rfl) (by kernel_rfl)
set_option maxRecDepth 100000 in
theorem lifted (os : Os) (started : os.Started) (H : Type) (enc : TypeId × Value → H) :
 ReturnsInHanded {} Tryd.checked os 5 .any (fun w args => (Rows.topoMakesSpec.pre enc Tryd.prog Tryd.f5 [] false w args ∧ laidMetH Tryd.prog Rows.topoMakesRow.laid w) ∧ sizedMet enc Tryd.prog Tryd.f5 (OpenSpec.ofChange Rows.topoMakesSpec) false w args) (Rows.topoMakesSpec.post enc Tryd.prog Tryd.f5 false true false false):=by
 refine returnsInHanded_of_change_and (C:=Tryd.checked) (X:=fun w _ => laidMetH Tryd.prog Rows.topoMakesRow.laid w) (fun _ _ _ hh h => h.of_heap hh) own started (by kernel_rfl) Tryd.func5
  (ChangeSpec.witness_shaped (enc:=enc) (C:=Tryd.checked) (os:=os) (X:=fun w _ => laidMetH Tryd.prog Rows.topoMakesRow.laid w) false (World.doorLaid Tryd.prog 14 os) #[.slice none 0 0,.slice none 0 0] 8 rfl (World.shaped_of_RefB (by kernel_rfl) (by kernel_rfl)) (by kernel_rfl) (by kernel_rfl) (by kernel_rfl) (g_3 os _)) ?_
 intro W base args ds gs before hval0 hW hcnd hsz0 hL _
 have hT:=i_P hL
 have hval : ∀ (j : Nat) t v,Tryd.f5.params[j]? = some t → args[j]? = some v → Value.okWide Tryd.prog W .any base t v:=hval0
 have hW':=hW
 obtain ⟨p,q,hA0,hV,rfl,hfz,hnd⟩:=hW
 have hA : DataW.TrodAll enc Tryd.prog W 0 (fun _ => true) true Tryd.f5.params.toList args.toList ds p:=hA0
 rw [Tryd.params5] at hA hval
 obtain ⟨v0,vs0,d0,ds0,p0,q0,hargs,rfl,rfl,h0,r0⟩:=trodAll_cons hA
 obtain ⟨v1,vs1,d1,ds1,p1,q1,rfl,rfl,rfl,h1,r1⟩:=trodAll_cons r0
 obtain ⟨rfl,rfl,rfl⟩:=trodAll_nil r1
 obtain rfl : args = #[v0,v1]:=by cases args;simp_all
 obtain ⟨rfl,rfl⟩:=trodVars_none hV
 have k0:=h0
 have lt0 : ∀ x ∈ p0,x.block < W.heap.size:=by obtain ⟨m,hm⟩:=k0;exact DataW.trod_lt m _ _ _ hm
 obtain ⟨a0,len0,cap0,rfl⟩:=okWide_slice Tryd.underlying46 (hval 0 46 v0 rfl rfl)
 obtain ⟨fuel0,hf0⟩:=h0
 obtain ⟨l0,⟨A0,c0,he0,hc0,hr0⟩,wf0_⟩:=(c_6.slice Tryd.underlying46 (by kernel_rfl) (c_6.int Tryd.underlying3 (by kernel_rfl))).open_ hf0
 simp [Value.cells] at he0
 obtain ⟨rfl,rfl,rfl⟩:=he0
 have k1:=h1
 have lt1 : ∀ x ∈ p1,x.block < W.heap.size:=by obtain ⟨m,hm⟩:=k1;exact DataW.trod_lt m _ _ _ hm
 obtain ⟨a1,len1,cap1,rfl⟩:=okWide_slice Tryd.underlying53 (hval 1 53 v1 rfl rfl)
 obtain ⟨fuel1,hf1⟩:=h1
 obtain ⟨l1,⟨A1,c1,he1,hc1,hr1⟩,wf1_⟩:=(c_6.slice Tryd.underlying53 (by kernel_rfl) op57).open_ hf1
 simp [Value.cells] at he1
 obtain ⟨rfl,rfl,rfl⟩:=he1
 obtain ⟨K,hK⟩:=Pure.e_P l0 l1 wf0_ wf1_
 refine (a_c.calls _ _ _ _ _ _ _ _ _ hr0 hc0 hr1 hc1 hT hK).mono fun e W' ⟨he,bel⟩ => ?_
 subst he
 exact ⟨_,rfl,_,_,_,[],_,[],hW',trodAll_mk1 (shut_bool Tryd.underlying4 _),(trodAll_cons_mk (Below.trod laidOut (by kernel_rfl) (of_decide_eq_true (by kernel_rfl)) k0 bel lt0) (trodAll_cons_mk (Below.trod laidOut (by kernel_rfl) (of_decide_eq_true (by kernel_rfl)) k1 bel lt1) trodAll_mk0)),rfl,bel.frame _,fun h => by cases h⟩
theorem over : Rows.topoMakesRow.holds Tryd.pinned (OpenSpec.ofChange Rows.topoMakesSpec) :=
 OpenClaim.holds_of_wide 5 Tryd.f5 rfl rfl rfl rfl rfl rfl rfl ⟨rfl,rfl,rfl,rfl,rfl⟩ rfl rfl rfl rfl rfl (by kernel_rfl) Tryd.func5 (by kernel_rfl)
  (of_decide_eq_true (by kernel_rfl)) (by unfold Func.isWrapper;first|(rw [if_pos (by decide +kernel)];kernel_rfl)|(rw [if_neg (by decide +kernel)];exact ⟨rfl,rfl⟩))
  (fun os started H enc _ => lifted os started H enc)
theorem j_S : Rows.TopoMakesCardSaid :=
 Claim7.holds_tied_plain_at .later [] [.data] true (true, "6dbd2b49adb5acd0b183bc1951f3d41c819263b5044b5d85a2e1d0af7c9bdaaa") false
  over (fun _ h => by cases h) (by kernel_rfl) (fun _ h => by cases h) topoMakes_row_tie rfl ⟨rfl,rfl⟩ (by kernel_rfl) rfl
  (fun f fn hf hfn => by
   obtain rfl : f = 5 := Option.some.inj ((show Tryd.prog.funcNamed "mainsheet/mainsheetlaw06.TopoMakes" = some 5 by kernel_rfl).symm.trans hf) |>.symm
   obtain rfl : fn = Tryd.f5:=(Option.some.inj (Tryd.func5.symm.trans hfn)).symm
   exact ⟨by kernel_rfl,fun j t ht => by
    rw [Tryd.params5] at ht
    rcases j with _|_|j
    ·obtain rfl : 46 = t:=by simpa using ht
     exact (show Tryd.prog.wantsStandIn 46 = false by kernel_rfl)
    ·obtain rfl : 53 = t:=by simpa using ht
     exact (show Tryd.prog.wantsStandIn 53 = false by kernel_rfl)
    ·simp at ht⟩)
  (by kernel_rfl)
theorem proved : Rows.TopoMakesCardSaid:=j_S
#print axioms proved
end Go.Proofs.YtcpfcehfgenljaaDoor.topoMakes
namespace Go.Proofs.YtcpfcehfgenljaaDoor
theorem topoMakes_holds : Rows.TopoMakesCardSaid:=topoMakes.proved
end Go.Proofs.YtcpfcehfgenljaaDoor
end
