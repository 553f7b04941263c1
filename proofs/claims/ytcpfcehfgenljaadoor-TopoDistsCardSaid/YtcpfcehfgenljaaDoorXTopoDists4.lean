/- Part 5 of 6 of what the row of TopoDists stands on: contracts over the given program's functions, the plain law, the row; no condition beyond those that each theorem states. -/
import Derived.Test.YtcpfcehfgenljaaDoorXTopoDists3
section
namespace Go.Proofs.YtcpfcehfgenljaaDoor.Q
open Go.RowKit Go.Proofs.YtcpfcehfgenljaaDoorW.PrintWords Go.Proofs.YtcpfcehfgenljaaDoorW.PrintLast Go.Proofs.YtcpfcehfgenljaaDoorW.PrintMore
set_option linter.unusedVariables false
set_option linter.unusedSimpArgs false
mutual
def a_f.l0 : Nat → List Int → Bool → List (S39) → Int → Int → List (S56) → List (S56) → Option (Bool)
 | 0,_,_,_,_,_,_,_ => none
 | k + 1,x2,x9,x30,x31,x32,x259000,x260000 => if x32 < x31 then (if 0 ≤ x32 then (if x32 < (x30.length : Int) then (if x32 = 12 then ((a_w.f k x259000 x260000).bind fun t264 => (some t264)) else ((b_c.f k x259000 ((a_p x30 x32).f0) ((a_p x30 x32).f1)).bind fun bt265 => (if x9 = true then ((a_C.f x260000 ((a_p x30 x32).f0)).bind fun t267 => (if t267 = true then ((a_C.f x260000 ((a_p x30 x32).f1)).bind fun t268 => (if t268 = true then ((a_S.f x260000 ((a_p x30 x32).f0) ((a_p x30 x32).f1)).bind fun t269 => (a_f.j1 k x2 x9 bt265.1 bt265.2 0 t269 x30 x31 x32 x259000 x260000 ((a_p x30 x32).f0) ((a_p x30 x32).f1))) else (a_f.j1 k x2 x9 bt265.1 bt265.2 2 0 x30 x31 x32 x259000 x260000 ((a_p x30 x32).f0) ((a_p x30 x32).f1)))) else (a_f.j1 k x2 x9 bt265.1 bt265.2 2 0 x30 x31 x32 x259000 x260000 ((a_p x30 x32).f0) ((a_p x30 x32).f1)))) else (a_f.j1 k x2 x9 bt265.1 bt265.2 160 0 x30 x31 x32 x259000 x260000 ((a_p x30 x32).f0) ((a_p x30 x32).f1))))) else (none)) else (none)) else ((a_w.f k x259000 x260000).bind fun t261 => (some t261))
def a_f.j1 : Nat → List Int → Bool → Int → Int → Int → Int → List (S39) → Int → Int → List (S56) → List (S56) → Int → Int → Option (Bool)
 | 0,_,_,_,_,_,_,_,_,_,_,_,_,_ => none
 | k + 1,x2,x9,x12,x13,x14,x15,x30,x31,x32,x259000,x260000,x264000,x264001 => if x13 = x14 then (a_f.j2 k x2 x9 x30 x31 x32 (x12 != x15) x259000 x260000 x264000 x264001) else (a_f.j2 k x2 x9 x30 x31 x32 true x259000 x260000 x264000 x264001)
def a_f.j2 : Nat → List Int → Bool → List (S39) → Int → Int → Bool → List (S56) → List (S56) → Int → Int → Option (Bool)
 | 0,_,_,_,_,_,_,_,_,_,_ => none
 | k + 1,x2,x9,x30,x31,x32,x77,x259000,x260000,x264000,x264001 => if x77 = true then (some false) else (a_f.l1 k x2 x9 x30 x31 x32 x2 (x2.length : Int) 0 x259000 x260000 x264000 x264001)
def a_f.l1 : Nat → List Int → Bool → List (S39) → Int → Int → List Int → Int → Int → List (S56) → List (S56) → Int → Int → Option (Bool)
 | 0,_,_,_,_,_,_,_,_,_,_,_,_ => none
 | k + 1,x2,x9,x30,x31,x32,x78,x79,x80,x259000,x260000,x264000,x264001 => if x80 < x79 then (if 0 ≤ x80 then (if x80 < (x78.length : Int) then (if x80 = 6 then (a_f.l0 k x2 x9 x30 x31 (wrap64 (x32 + 1)) x259000 x260000) else ((b_e.f x259000 x264000 (rd x78 x80)).bind fun bt271 => (if x9 = true then ((a_C.f x260000 x264000).bind fun t275 => (if t275 = true then ((a_1.f (rd x78 x80)).bind fun t276 => (if t276 = true then ((a_m.f k x260000 x264000 (rd x78 x80)).bind fun t277 => (if bt271.2 = 0 then ((a_j.f k bt271.1 t277).bind fun t280 => (if t280 = true then (a_f.l1 k x2 x9 x30 x31 x32 x78 x79 (wrap64 (x80 + 1)) x259000 x260000 x264000 x264001) else (some false))) else (some false))) else (if bt271.2 = 140 then ((a_j.f k bt271.1 ([] : List Int)).bind fun t281 => (if t281 = true then (a_f.l1 k x2 x9 x30 x31 x32 x78 x79 (wrap64 (x80 + 1)) x259000 x260000 x264000 x264001) else (some false))) else (some false)))) else (if bt271.2 = 2 then ((a_j.f k bt271.1 ([] : List Int)).bind fun t282 => (if t282 = true then (a_f.l1 k x2 x9 x30 x31 x32 x78 x79 (wrap64 (x80 + 1)) x259000 x260000 x264000 x264001) else (some false))) else (some false)))) else (if bt271.2 = 160 then ((a_j.f k bt271.1 ([] : List Int)).bind fun t283 => (if t283 = true then (a_f.l1 k x2 x9 x30 x31 x32 x78 x79 (wrap64 (x80 + 1)) x259000 x260000 x264000 x264001) else (some false))) else (some false))))) else (none)) else (none)) else (a_f.l0 k x2 x9 x30 x31 (wrap64 (x32 + 1)) x259000 x260000)
end
def a_f.f (k : Nat) (l0_0 : List (S56)) (l1 : List (S39)) (l2 : List Int) : Option (Bool):=(a_G.f k).bind fun t251 => (if t251 = true then ((a_H.f l0_0).bind fun t252 => ((a_H.f l0_0).bind fun t255 => ((a_s.f k t255).bind fun t260 => (a_f.l0 k l2 t260 l1 (l1.length : Int) 0 t252 t255)))) else (some false))
theorem a_f.c_w : ∀ k,(∀ y0 y1 y2 y3 y4 y5 y6,LeO (a_f.l0 k y0 y1 y2 y3 y4 y5 y6) (a_f.l0 (k + 1) y0 y1 y2 y3 y4 y5 y6)) ∧ (∀ y0 y1 y2 y3 y4 y5 y6 y7 y8 y9 y10 y11 y12,LeO (a_f.j1 k y0 y1 y2 y3 y4 y5 y6 y7 y8 y9 y10 y11 y12) (a_f.j1 (k + 1) y0 y1 y2 y3 y4 y5 y6 y7 y8 y9 y10 y11 y12)) ∧ (∀ y0 y1 y2 y3 y4 y5 y6 y7 y8 y9,LeO (a_f.j2 k y0 y1 y2 y3 y4 y5 y6 y7 y8 y9) (a_f.j2 (k + 1) y0 y1 y2 y3 y4 y5 y6 y7 y8 y9)) ∧ (∀ y0 y1 y2 y3 y4 y5 y6 y7 y8 y9 y10 y11,LeO (a_f.l1 k y0 y1 y2 y3 y4 y5 y6 y7 y8 y9 y10 y11) (a_f.l1 (k + 1) y0 y1 y2 y3 y4 y5 y6 y7 y8 y9 y10 y11))
 | 0 => ⟨fun _ _ _ _ _ _ _ r h => by simp [a_f.l0] at h,fun _ _ _ _ _ _ _ _ _ _ _ _ _ r h => by simp [a_f.j1] at h,fun _ _ _ _ _ _ _ _ _ _ r h => by simp [a_f.j2] at h,fun _ _ _ _ _ _ _ _ _ _ _ _ r h => by simp [a_f.l1] at h⟩
 | k + 1 => by
  obtain ⟨ih0,ih1,ih2,ih3⟩:=a_f.c_w k
  refine ⟨?_,?_,?_,?_⟩
  ·intro y0 y1 y2 y3 y4 y5 y6
   unfold a_f.l0
   repeat' first
   | (with_reducible exact ih0 _ _ _ _ _ _ _)
   | (with_reducible exact ih1 _ _ _ _ _ _ _ _ _ _ _ _ _)
   | (with_reducible exact ih2 _ _ _ _ _ _ _ _ _ _)
   | (with_reducible exact ih3 _ _ _ _ _ _ _ _ _ _ _ _)
   | (with_reducible exact a_G.mono _)
   | (with_reducible exact a_j.mono _ _ _)
   | (with_reducible exact a_m.mono _ _ _ _)
   | (with_reducible exact a_s.mono _ _)
   | (with_reducible exact a_w.mono _ _ _)
   | (with_reducible exact b_c.mono _ _ _ _)
   | (with_reducible exact LeO.refl _)
   | (with_reducible exact LeO.none _)
   | (with_reducible refine LeO.ite ?_ ?_)
   | (with_reducible refine LeO.bind ?_ (fun _ => ?_))
   | exact ih0 _ _ _ _ _ _ _
   | exact ih1 _ _ _ _ _ _ _ _ _ _ _ _ _
   | exact ih2 _ _ _ _ _ _ _ _ _ _
   | exact ih3 _ _ _ _ _ _ _ _ _ _ _ _
   | exact a_G.mono _
   | exact a_j.mono _ _ _
   | exact a_m.mono _ _ _ _
   | exact a_s.mono _ _
   | exact a_w.mono _ _ _
   | exact b_c.mono _ _ _ _
   | exact LeO.none _
   | refine LeO.ite ?_ ?_
   | refine LeO.bind ?_ (fun _ => ?_)
  ·intro y0 y1 y2 y3 y4 y5 y6 y7 y8 y9 y10 y11 y12
   unfold a_f.j1
   repeat' first
   | (with_reducible exact ih0 _ _ _ _ _ _ _)
   | (with_reducible exact ih1 _ _ _ _ _ _ _ _ _ _ _ _ _)
   | (with_reducible exact ih2 _ _ _ _ _ _ _ _ _ _)
   | (with_reducible exact ih3 _ _ _ _ _ _ _ _ _ _ _ _)
   | (with_reducible exact a_G.mono _)
   | (with_reducible exact a_j.mono _ _ _)
   | (with_reducible exact a_m.mono _ _ _ _)
   | (with_reducible exact a_s.mono _ _)
   | (with_reducible exact a_w.mono _ _ _)
   | (with_reducible exact b_c.mono _ _ _ _)
   | (with_reducible exact LeO.refl _)
   | (with_reducible exact LeO.none _)
   | (with_reducible refine LeO.ite ?_ ?_)
   | (with_reducible refine LeO.bind ?_ (fun _ => ?_))
   | exact ih0 _ _ _ _ _ _ _
   | exact ih1 _ _ _ _ _ _ _ _ _ _ _ _ _
   | exact ih2 _ _ _ _ _ _ _ _ _ _
   | exact ih3 _ _ _ _ _ _ _ _ _ _ _ _
   | exact a_G.mono _
   | exact a_j.mono _ _ _
   | exact a_m.mono _ _ _ _
   | exact a_s.mono _ _
   | exact a_w.mono _ _ _
   | exact b_c.mono _ _ _ _
   | exact LeO.none _
   | refine LeO.ite ?_ ?_
   | refine LeO.bind ?_ (fun _ => ?_)
  ·intro y0 y1 y2 y3 y4 y5 y6 y7 y8 y9
   unfold a_f.j2
   repeat' first
   | (with_reducible exact ih0 _ _ _ _ _ _ _)
   | (with_reducible exact ih1 _ _ _ _ _ _ _ _ _ _ _ _ _)
   | (with_reducible exact ih2 _ _ _ _ _ _ _ _ _ _)
   | (with_reducible exact ih3 _ _ _ _ _ _ _ _ _ _ _ _)
   | (with_reducible exact a_G.mono _)
   | (with_reducible exact a_j.mono _ _ _)
   | (with_reducible exact a_m.mono _ _ _ _)
   | (with_reducible exact a_s.mono _ _)
   | (with_reducible exact a_w.mono _ _ _)
   | (with_reducible exact b_c.mono _ _ _ _)
   | (with_reducible exact LeO.refl _)
   | (with_reducible exact LeO.none _)
   | (with_reducible refine LeO.ite ?_ ?_)
   | (with_reducible refine LeO.bind ?_ (fun _ => ?_))
   | exact ih0 _ _ _ _ _ _ _
   | exact ih1 _ _ _ _ _ _ _ _ _ _ _ _ _
   | exact ih2 _ _ _ _ _ _ _ _ _ _
   | exact ih3 _ _ _ _ _ _ _ _ _ _ _ _
   | exact a_G.mono _
   | exact a_j.mono _ _ _
   | exact a_m.mono _ _ _ _
   | exact a_s.mono _ _
   | exact a_w.mono _ _ _
   | exact b_c.mono _ _ _ _
   | exact LeO.none _
   | refine LeO.ite ?_ ?_
   | refine LeO.bind ?_ (fun _ => ?_)
  ·intro y0 y1 y2 y3 y4 y5 y6 y7 y8 y9 y10 y11
   unfold a_f.l1
   repeat' first
   | (with_reducible exact ih0 _ _ _ _ _ _ _)
   | (with_reducible exact ih1 _ _ _ _ _ _ _ _ _ _ _ _ _)
   | (with_reducible exact ih2 _ _ _ _ _ _ _ _ _ _)
   | (with_reducible exact ih3 _ _ _ _ _ _ _ _ _ _ _ _)
   | (with_reducible exact a_G.mono _)
   | (with_reducible exact a_j.mono _ _ _)
   | (with_reducible exact a_m.mono _ _ _ _)
   | (with_reducible exact a_s.mono _ _)
   | (with_reducible exact a_w.mono _ _ _)
   | (with_reducible exact b_c.mono _ _ _ _)
   | (with_reducible exact LeO.refl _)
   | (with_reducible exact LeO.none _)
   | (with_reducible refine LeO.ite ?_ ?_)
   | (with_reducible refine LeO.bind ?_ (fun _ => ?_))
   | exact ih0 _ _ _ _ _ _ _
   | exact ih1 _ _ _ _ _ _ _ _ _ _ _ _ _
   | exact ih2 _ _ _ _ _ _ _ _ _ _
   | exact ih3 _ _ _ _ _ _ _ _ _ _ _ _
   | exact a_G.mono _
   | exact a_j.mono _ _ _
   | exact a_m.mono _ _ _ _
   | exact a_s.mono _ _
   | exact a_w.mono _ _ _
   | exact b_c.mono _ _ _ _
   | exact LeO.none _
   | refine LeO.ite ?_ ?_
   | refine LeO.bind ?_ (fun _ => ?_)
theorem a_f.mono : ∀ a0 a1 a2 k,LeO (a_f.f k a0 a1 a2) (a_f.f (k + 1) a0 a1 a2):=by
 intro a0 a1 a2 k
 obtain ⟨ih0,ih1,ih2,ih3⟩:=a_f.c_w k
 unfold a_f.f
 repeat' first
  | (with_reducible exact ih0 _ _ _ _ _ _ _)
  | (with_reducible exact ih1 _ _ _ _ _ _ _ _ _ _ _ _ _)
  | (with_reducible exact ih2 _ _ _ _ _ _ _ _ _ _)
  | (with_reducible exact ih3 _ _ _ _ _ _ _ _ _ _ _ _)
  | (with_reducible exact a_G.mono _)
  | (with_reducible exact a_j.mono _ _ _)
  | (with_reducible exact a_m.mono _ _ _ _)
  | (with_reducible exact a_s.mono _ _)
  | (with_reducible exact a_w.mono _ _ _)
  | (with_reducible exact b_c.mono _ _ _ _)
  | (with_reducible exact LeO.refl _)
  | (with_reducible exact LeO.none _)
  | (with_reducible refine LeO.ite ?_ ?_)
  | (with_reducible refine LeO.bind ?_ (fun _ => ?_))
  | exact ih0 _ _ _ _ _ _ _
  | exact ih1 _ _ _ _ _ _ _ _ _ _ _ _ _
  | exact ih2 _ _ _ _ _ _ _ _ _ _
  | exact ih3 _ _ _ _ _ _ _ _ _ _ _ _
  | exact a_G.mono _
  | exact a_j.mono _ _ _
  | exact a_m.mono _ _ _ _
  | exact a_s.mono _ _
  | exact a_w.mono _ _ _
  | exact b_c.mono _ _ _ _
  | exact LeO.none _
  | refine LeO.ite ?_ ?_
  | refine LeO.bind ?_ (fun _ => ?_)
def a_f.T3 : Bool × List (List Nat × List Nat):=(true,[([],[]),([0],[0]),([],[]),([2,1],[2]),([],[]),([],[]),([4,1,3,0,1,4,5],[1,4]),([5,3,6,0,1,2,3,4,5,6],[3,5])])
def a_f.B3 : List Nat:=[0,1,0,7,0,0,63,127]
theorem a_f.tab3 : rtab .any (opsOf Tryd.f4 3) = a_f.T3:=by kernel_rfl
theorem a_f.n_b : d_H a_f.T3.2 a_f.B3 = true:=by kernel_rfl
set_option maxHeartbeats 8000000 in
set_option maxRecDepth 100000 in
theorem a_f.calls (k : Nat) (A0_0 : Option Addr) (c0_0 : Nat) (l0_0 : List (S56)) (A1 : Option Addr) (c1 : Nat) (l1 : List (S39)) (A2 : Option Addr) (c2 : Nat) (l2 : List Int) (r : Bool) (w : World) (hr0_0 : Kd.C k56 w A0_0 l0_0.length l0_0) (hc0_0 : l0_0.length ≤ c0_0) (hr1 : Kd.C k39 w A1 l1.length l1) (hc1 : l1.length ≤ c1) (hr2 : Kd.C (Kd.int .u32) w A2 l2.length l2) (hc2 : l2.length ≤ c2) (ht : b_W w) (h : a_f.f k l0_0 l1 l2 = some r) :
 Calls Tryd.prog 4 #[.agg #[.slice A0_0 l0_0.length c0_0],.slice A1 l1.length c1,.slice A2 l2.length c2] w fun e w' => e = .returned (.bool r) ∧ Below w.heap.size w w':=by
 have hu24:=Tryd.underlying24
 have hu39:=Tryd.underlying39
 have HTAB_:=a_b.mk ht
 clear ht
 have b_l:=a_b.mk hr0_0
 have c_h:=a_b.mk hc0_0
 clear hr0_0 hc0_0
 have HR1:=a_b.mk hr1
 have HC1:=a_b.mk hc1
 clear hr1 hc1
 have HR2:=a_b.mk hr2
 have HC2:=a_b.mk hc2
 clear hr2 hc2
 have HB:=a_b.mk (Below.refl w.heap.size w)
 have H : ((a_G.f k).bind fun t251 => (if t251 = true then ((a_H.f l0_0).bind fun t252 => ((a_H.f l0_0).bind fun t255 => ((a_s.f k t255).bind fun t260 => (a_f.l0 k l2 t260 l1 (l1.length : Int) 0 t252 t255)))) else (some false))) = some r:=h
 clear h
 replace H:=Option.bind_eq_some_iff.mp H
 obtain ⟨t251,A40,H⟩:=H
 replace H : (if t251 = true then ((a_H.f l0_0).bind fun t252 => ((a_H.f l0_0).bind fun t255 => ((a_s.f k t255).bind fun t260 => (a_f.l0 k l2 t260 l1 (l1.length : Int) 0 t252 t255)))) else (some false)) = some r:=H
 have A4:=a_b.mk A40
 clear A40
 by_cases c5 : t251 = true
 rotate_left
 ·replace c5:=Bool.eq_false_iff.mpr c5
  subst c5
  have H1 : (some false) = some r:=by rw [if_neg (show ¬ (false = true) by decide)] at H;exact H
  clear H
  have H:=H1
  clear H1
  obtain rfl:=Option.some.inj H
  go_enter Tryd.func4,Tryd.ntmps4
  go_wp2_with (first|((with_reducible refine a_J (N:=3) rfl ?_);refine a_F ?hg (N:=3) ?hd (cs:=#[.slice A0_0 l0_0.length c0_0]) (t:=24) ?hr ?_;(case hd => rfl);(case hg => rfl);(case hr => first|(go_simp;done)|(go_simp;rfl));intro a_W hg w275 hbox hb;have a_D:=a_b.mk (hbox);have m_2:=a_b.mk ((by rw [hg];exact (a_i (lup_ HB.out)) : w.heap.size ≤ a_W));have a_L:=a_b.mk ((by rw [hg];exact (a_i (lup_ HB.out)) : w.heap.size ≤ a_W));replace HB:=a_b.mk (a_l (lup_ HB.out) hb);clear hb hbox hg)|((with_reducible refine a_y (f:=10) rfl ?_);refine a_5 (some 22) rfl rfl Tryd.func10 (by kernel_rfl) rfl #[] rfl (by (try simp only [List.map_toArray,List.map_cons,List.map_nil]);first|done|rfl|(simp only [List.length_drop,List.length_take];rfl)) ?_;(with_reducible refine (a_G.calls k  false _ ?side1 A4.out).mono ?_);(case side1 => exact b_W.below HTAB_.out (by repeat (first|(with_reducible first|exact HB.out|apply a_d|apply a_c|apply a_e|refine a_a ?_ a_L.out)|exact HB.out)));rintro e w276 ⟨rfl,hb⟩;refine ⟨_,rfl,?_⟩;replace a_D:=a_b.mk (a_h (bup_ a_D.out) hb);replace HB:=a_b.mk (a_l (by repeat (first|(with_reducible first|exact HB.out|apply a_d|apply a_c|apply a_e|refine a_a ?_ a_L.out)|exact HB.out)) hb);(try clear hb);(try clear hb2);(try clear hk);(try clear hi)))
  go_ret
  exact ⟨by first|rfl|(simp [a_t,a_u] <;> rfl)|(simp [*, a_t,a_u] <;> rfl),by repeat (first|(with_reducible first|exact HB.out|apply a_d|apply a_c|apply a_e|refine a_a ?_ a_L.out)|exact HB.out)⟩
 subst c5
 have H1 : ((a_H.f l0_0).bind fun t252 => ((a_H.f l0_0).bind fun t255 => ((a_s.f k t255).bind fun t260 => (a_f.l0 k l2 t260 l1 (l1.length : Int) 0 t252 t255)))) = some r:=by rw [if_pos rfl] at H;exact H
 clear H
 have H:=H1
 clear H1
 replace H:=Option.bind_eq_some_iff.mp H
 obtain ⟨t252,A60,H⟩:=H
 replace H : ((a_H.f l0_0).bind fun t255 => ((a_s.f k t255).bind fun t260 => (a_f.l0 k l2 t260 l1 (l1.length : Int) 0 t252 t255))) = some r:=H
 have A6:=a_b.mk A60
 clear A60
 replace H:=Option.bind_eq_some_iff.mp H
 obtain ⟨t255,A70,H⟩:=H
 replace H : ((a_s.f k t255).bind fun t260 => (a_f.l0 k l2 t260 l1 (l1.length : Int) 0 t252 t255)) = some r:=H
 have A7:=a_b.mk A70
 clear A70
 replace H:=Option.bind_eq_some_iff.mp H
 obtain ⟨t260,A80,H⟩:=H
 replace H : (a_f.l0 k l2 t260 l1 (l1.length : Int) 0 t252 t255) = some r:=H
 have A8:=a_b.mk A80
 clear A80
 have H':=a_b.mk H
 clear H
 go_enter Tryd.func4,Tryd.ntmps4
 try go_wp2_with (first|((with_reducible refine a_J (N:=3) rfl ?_);refine a_F ?hg (N:=3) ?hd (cs:=#[.slice A0_0 l0_0.length c0_0]) (t:=24) ?hr ?_;(case hd => rfl);(case hg => rfl);(case hr => first|(go_simp;done)|(go_simp;rfl));intro a_W hg w9 hbox hb;have a_D:=a_b.mk (hbox);have m_2:=a_b.mk ((by rw [hg];exact (a_i (lup_ HB.out)) : w.heap.size ≤ a_W));have a_L:=a_b.mk ((by rw [hg];exact (a_i (lup_ HB.out)) : w.heap.size ≤ a_W));replace HB:=a_b.mk (a_l (lup_ HB.out) hb);clear hb hbox hg)|((with_reducible refine a_y (f:=10) rfl ?_);refine a_5 (some 22) rfl rfl Tryd.func10 (by kernel_rfl) rfl #[] rfl (by (try simp only [List.map_toArray,List.map_cons,List.map_nil]);first|done|rfl|(simp only [List.length_drop,List.length_take];rfl)) ?_;(with_reducible refine (a_G.calls k  true _ ?side1 A4.out).mono ?_);(case side1 => exact b_W.below HTAB_.out (by repeat (first|(with_reducible first|exact HB.out|apply a_d|apply a_c|apply a_e|refine a_a ?_ a_L.out)|exact HB.out)));rintro e w10 ⟨rfl,hb⟩;refine ⟨_,rfl,?_⟩;replace a_D:=a_b.mk (a_h (bup_ a_D.out) hb);replace HB:=a_b.mk (a_l (by repeat (first|(with_reducible first|exact HB.out|apply a_d|apply a_c|apply a_e|refine a_a ?_ a_L.out)|exact HB.out)) hb);(try clear hb);(try clear hb2);(try clear hk);(try clear hi)))
 replace a_D:=a_b.mk (a_q a_D.out)
 replace HB:=a_b.mk (a_e HB.out)
 refine i_k (n:=8) (S:=fun w' => w'.cell? ⟨a_W,0,none⟩ = some (.slice A0_0 l0_0.length c0_0)) (ds:=[]) #[F_,F_,F_,F_,F_,F_,F_,F_] (by kernel_rfl) rfl rfl ((a_k a_D.out 0).trans rfl) (fun hHeld => ?_);refine e_v a_f.tab3 a_f.n_b (fun HT_ HW_ => ?_)
 generalize w10.drew = w11 at a_D HB hHeld ⊢
 refine f_g (i:=0) (N:=some 24) (v:=?_) (a':=?_) #[T_,F_,F_,F_,F_,F_,F_,F_] rfl rfl (d_e HT_.out HW_.out (by kernel_rfl)) (fun _ _ _ h => h) (Or.inl ⟨by rfl,?_⟩) hHeld ?_ ?_
 rotate_left
 ·intro w' s0
  go_simp
  with_reducible rfl
 rotate_left
 ·simp only [Act.put,sa_,sb_,sc_,c_c,c_b]
  rfl
 refine f_g (i:=2) (N:=some 26) (v:=?_) (a':=?_) #[T_,F_,T_,F_,F_,F_,F_,F_] rfl rfl (d_e HT_.out HW_.out (by kernel_rfl)) (fun _ _ _ h => h) (Or.inl ⟨by rfl,?_⟩) hHeld ?_ ?_
 rotate_left
 ·intro w' s0
  go_simp
  with_reducible rfl
 rotate_left
 ·simp only [Act.put,sa_,sb_,sc_,c_c,c_b]
  rfl
 refine d_8 (σ:=Value × Value × Nat × Nat) 2 Z1_ (fun s_ => [(25,.agg #[s_.1]),(27,.agg #[s_.2.1]),(7,.pointer (some ⟨s_.2.2.1,0,none⟩)),(8,.pointer (some ⟨s_.2.2.2,0,none⟩))]) (fun s_ w' => (w'.cell? ⟨a_W,0,none⟩ = some (.slice A0_0 l0_0.length c0_0)) ∧ (Kd.R k56 56 w' w.heap.size (fun k_ => some k_ ≠ (s_.2.1 : Value).ownBlock) s_.1 t252) ∧ (Kd.R k56 56 w' w.heap.size (fun k_ => some k_ ≠ (s_.1 : Value).ownBlock) s_.2.1 t255) ∧ (w'.heap[a_W]? = some (.cells #[.slice A0_0 l0_0.length c0_0] 24 (0,0))) ∧ (w'.heap[s_.2.2.1]? = some (.cells #[.slice none 0 0] 24 (0,0))) ∧ (w'.heap[s_.2.2.2]? = some (.cells #[.slice none 0 0] 24 (0,0))) ∧ (w.heap.size ≤ s_.2.2.1) ∧ (w.heap.size ≤ s_.2.2.1) ∧ (a_W ≠ s_.2.2.1) ∧ (s_.2.2.1 ≠ a_W) ∧ (s_.2.2.2 ≠ s_.2.2.1) ∧ (s_.2.2.1 ≠ s_.2.2.2) ∧ (w.heap.size ≤ s_.2.2.2) ∧ (w.heap.size ≤ s_.2.2.2) ∧ (a_W ≠ s_.2.2.2) ∧ (s_.2.2.2 ≠ a_W) ∧ (Below w.heap.size w w')) ?_ ?_
 rotate_left
 ·intro e_l
  refine d_8 (σ:=Value × Value × Nat) 3 #[T_,T_,T_,T_,T_,F_,F_,F_] (fun s_ => [(25,.agg #[s_.1]),(27,.agg #[s_.2.1]),(7,.pointer (some ⟨s_.2.2,0,none⟩))]) (fun s_ w' => (w'.cell? ⟨a_W,0,none⟩ = some (.slice A0_0 l0_0.length c0_0)) ∧ (Kd.R k56 56 w' w.heap.size (fun k_ => some k_ ≠ (s_.2.1 : Value).ownBlock) s_.1 t252) ∧ (Kd.R k56 56 w' w.heap.size (fun k_ => some k_ ≠ (s_.1 : Value).ownBlock) s_.2.1 t255) ∧ (w'.heap[a_W]? = some (.cells #[.slice A0_0 l0_0.length c0_0] 24 (0,0))) ∧ (w'.heap[s_.2.2]? = some (.cells #[.slice none 0 0] 24 (0,0))) ∧ (w.heap.size ≤ s_.2.2) ∧ (w.heap.size ≤ s_.2.2) ∧ (a_W ≠ s_.2.2) ∧ (s_.2.2 ≠ a_W) ∧ (Below w.heap.size w w')) ?_ ?_
  rotate_left
  ·intro h_D
   refine d_8 (σ:=Value × Value × Nat) 3 #[T_,T_,T_,T_,F_,T_,F_,F_] (fun s_ => [(25,.agg #[s_.1]),(27,.agg #[s_.2.1]),(8,.pointer (some ⟨s_.2.2,0,none⟩))]) (fun s_ w' => (w'.cell? ⟨a_W,0,none⟩ = some (.slice A0_0 l0_0.length c0_0)) ∧ (Kd.R k56 56 w' w.heap.size (fun k_ => some k_ ≠ (s_.2.1 : Value).ownBlock) s_.1 t252) ∧ (Kd.R k56 56 w' w.heap.size (fun k_ => some k_ ≠ (s_.1 : Value).ownBlock) s_.2.1 t255) ∧ (w'.heap[a_W]? = some (.cells #[.slice A0_0 l0_0.length c0_0] 24 (0,0))) ∧ (w'.heap[s_.2.2]? = some (.cells #[.slice none 0 0] 24 (0,0))) ∧ (w.heap.size ≤ s_.2.2) ∧ (w.heap.size ≤ s_.2.2) ∧ (a_W ≠ s_.2.2) ∧ (s_.2.2 ≠ a_W) ∧ (Below w.heap.size w w')) ?_ ?_
   rotate_left
   ·intro h_E
    refine d_8 (σ:=Value × Nat × Nat) 3 Z0_ (fun s_ => [(25,.agg #[s_.1]),(7,.pointer (some ⟨s_.2.1,0,none⟩)),(8,.pointer (some ⟨s_.2.2,0,none⟩))]) (fun s_ w' => (w'.cell? ⟨a_W,0,none⟩ = some (.slice A0_0 l0_0.length c0_0)) ∧ (Kd.R k56 56 w' w.heap.size (fun _ => True) s_.1 t252) ∧ (w'.heap[a_W]? = some (.cells #[.slice A0_0 l0_0.length c0_0] 24 (0,0))) ∧ (w'.heap[s_.2.1]? = some (.cells #[.slice none 0 0] 24 (0,0))) ∧ (w'.heap[s_.2.2]? = some (.cells #[.slice none 0 0] 24 (0,0))) ∧ (w.heap.size ≤ s_.2.1) ∧ (w.heap.size ≤ s_.2.1) ∧ (a_W ≠ s_.2.1) ∧ (s_.2.1 ≠ a_W) ∧ (s_.2.2 ≠ s_.2.1) ∧ (s_.2.1 ≠ s_.2.2) ∧ (w.heap.size ≤ s_.2.2) ∧ (w.heap.size ≤ s_.2.2) ∧ (a_W ≠ s_.2.2) ∧ (s_.2.2 ≠ a_W) ∧ (Below w.heap.size w w')) ?_ ?_
    rotate_left
    ·intro f_R
     refine d_8 (σ:=Value × Value) 4 #[T_,T_,T_,T_,F_,F_,F_,F_] (fun s_ => [(25,.agg #[s_.1]),(27,.agg #[s_.2])]) (fun s_ w' => (w'.cell? ⟨a_W,0,none⟩ = some (.slice A0_0 l0_0.length c0_0)) ∧ (Kd.R k56 56 w' w.heap.size (fun k_ => some k_ ≠ (s_.2 : Value).ownBlock) s_.1 t252) ∧ (Kd.R k56 56 w' w.heap.size (fun k_ => some k_ ≠ (s_.1 : Value).ownBlock) s_.2 t255) ∧ (w'.heap[a_W]? = some (.cells #[.slice A0_0 l0_0.length c0_0] 24 (0,0))) ∧ (Below w.heap.size w w')) ?_ ?_
     rotate_left
     ·intro n_o
      refine d_8 (σ:=Value × Nat) 4 #[T_,T_,T_,F_,T_,F_,F_,F_] (fun s_ => [(25,.agg #[s_.1]),(7,.pointer (some ⟨s_.2,0,none⟩))]) (fun s_ w' => (w'.cell? ⟨a_W,0,none⟩ = some (.slice A0_0 l0_0.length c0_0)) ∧ (Kd.R k56 56 w' w.heap.size (fun _ => True) s_.1 t252) ∧ (w'.heap[a_W]? = some (.cells #[.slice A0_0 l0_0.length c0_0] 24 (0,0))) ∧ (w'.heap[s_.2]? = some (.cells #[.slice none 0 0] 24 (0,0))) ∧ (w.heap.size ≤ s_.2) ∧ (w.heap.size ≤ s_.2) ∧ (a_W ≠ s_.2) ∧ (s_.2 ≠ a_W) ∧ (Below w.heap.size w w')) ?_ ?_
      rotate_left
      ·intro k_b
       refine d_8 (σ:=Value × Nat) 4 #[T_,T_,T_,F_,F_,T_,F_,F_] (fun s_ => [(25,.agg #[s_.1]),(8,.pointer (some ⟨s_.2,0,none⟩))]) (fun s_ w' => (w'.cell? ⟨a_W,0,none⟩ = some (.slice A0_0 l0_0.length c0_0)) ∧ (Kd.R k56 56 w' w.heap.size (fun _ => True) s_.1 t252) ∧ (w'.heap[a_W]? = some (.cells #[.slice A0_0 l0_0.length c0_0] 24 (0,0))) ∧ (w'.heap[s_.2]? = some (.cells #[.slice none 0 0] 24 (0,0))) ∧ (w.heap.size ≤ s_.2) ∧ (w.heap.size ≤ s_.2) ∧ (a_W ≠ s_.2) ∧ (s_.2 ≠ a_W) ∧ (Below w.heap.size w w')) ?_ ?_
       rotate_left
       ·intro k_d
        refine d_8 (σ:=Nat × Nat) 4 #[T_,F_,T_,F_,T_,T_,F_,F_] (fun s_ => [(7,.pointer (some ⟨s_.1,0,none⟩)),(8,.pointer (some ⟨s_.2,0,none⟩))]) (fun s_ w' => (w'.cell? ⟨a_W,0,none⟩ = some (.slice A0_0 l0_0.length c0_0)) ∧ (w'.heap[a_W]? = some (.cells #[.slice A0_0 l0_0.length c0_0] 24 (0,0))) ∧ (w'.heap[s_.1]? = some (.cells #[.slice none 0 0] 24 (0,0))) ∧ (w'.heap[s_.2]? = some (.cells #[.slice none 0 0] 24 (0,0))) ∧ (w.heap.size ≤ s_.1) ∧ (w.heap.size ≤ s_.1) ∧ (a_W ≠ s_.1) ∧ (s_.1 ≠ a_W) ∧ (s_.2 ≠ s_.1) ∧ (s_.1 ≠ s_.2) ∧ (w.heap.size ≤ s_.2) ∧ (w.heap.size ≤ s_.2) ∧ (a_W ≠ s_.2) ∧ (s_.2 ≠ a_W) ∧ (Below w.heap.size w w')) ?_ ?_
        rotate_left
        ·intro k_e
         refine d_8 (σ:=Value) 5 #[T_,T_,T_,F_,F_,F_,F_,F_] (fun s_ => [(25,.agg #[s_])]) (fun s_ w' => (w'.cell? ⟨a_W,0,none⟩ = some (.slice A0_0 l0_0.length c0_0)) ∧ (Kd.R k56 56 w' w.heap.size (fun _ => True) s_ t252) ∧ (w'.heap[a_W]? = some (.cells #[.slice A0_0 l0_0.length c0_0] 24 (0,0))) ∧ (Below w.heap.size w w')) ?_ ?_
         rotate_left
         ·intro hJ1
          refine d_8 (σ:=Nat) 5 #[T_,F_,T_,F_,T_,F_,F_,F_] (fun s_ => [(7,.pointer (some ⟨s_,0,none⟩))]) (fun s_ w' => (w'.cell? ⟨a_W,0,none⟩ = some (.slice A0_0 l0_0.length c0_0)) ∧ (w'.heap[a_W]? = some (.cells #[.slice A0_0 l0_0.length c0_0] 24 (0,0))) ∧ (w'.heap[s_]? = some (.cells #[.slice none 0 0] 24 (0,0))) ∧ (w.heap.size ≤ s_) ∧ (w.heap.size ≤ s_) ∧ (a_W ≠ s_) ∧ (s_ ≠ a_W) ∧ (Below w.heap.size w w')) ?_ ?_
          rotate_left
          ·intro hJ4
           refine d_8 (σ:=Nat) 5 #[T_,F_,T_,F_,F_,T_,F_,F_] (fun s_ => [(8,.pointer (some ⟨s_,0,none⟩))]) (fun s_ w' => (w'.cell? ⟨a_W,0,none⟩ = some (.slice A0_0 l0_0.length c0_0)) ∧ (w'.heap[a_W]? = some (.cells #[.slice A0_0 l0_0.length c0_0] 24 (0,0))) ∧ (w'.heap[s_]? = some (.cells #[.slice none 0 0] 24 (0,0))) ∧ (w.heap.size ≤ s_) ∧ (w.heap.size ≤ s_) ∧ (a_W ≠ s_) ∧ (s_ ≠ a_W) ∧ (Below w.heap.size w w')) ?_ ?_
           rotate_left
           ·intro hJ5
            refine i_Y (i:=1) (j:=4) (k:=5) (Ni:=some 25) (Nj:=some 7) (Nk:=some 8) #[T_,T_,T_,F_,F_,F_,F_,F_] #[T_,F_,T_,F_,T_,F_,F_,F_] #[T_,F_,T_,F_,F_,T_,F_,F_] rfl rfl rfl rfl rfl rfl (g_X HT_.out (by kernel_rfl)) (by decide) (by decide) (by decide) (fun K hK => ?_) (fun K hK => ?_) (fun K hK => ?_)
            ·skip
             refine f_x Tryd.func11 (by kernel_rfl) rfl #[.agg #[.slice A0_0 l0_0.length c0_0]] (by rfl) rfl rfl (by (try simp only [List.map_toArray,List.map_cons,List.map_nil]);first|done|rfl|(simp only [List.length_drop,List.length_take];rfl)) ?_
             with_reducible refine (a_H.calls _ _ l0_0 t252 _ ?side1 ?side2 A6.out).mono ?_
             (case side1 => repeat (first|exact (Kd.b_d b_l.out HB.out)|(with_reducible refine Kd.a_N ?_ _)|(with_reducible refine Kd.a_O ?_ _)|(with_reducible refine Kd.a_8 ?_)))
             (case side2 => exact c_h.out)
             rintro e w12 ⟨v253,rfl,ho0,hb⟩
             refine ⟨_,rfl,?_⟩
             have b_J:=a_b.mk (Kd.b_o ho0 (a_i (by repeat (first|(with_reducible first|exact HB.out|apply a_d|apply a_c|apply a_e|refine a_a ?_ a_L.out)|exact HB.out))))
             replace a_D:=a_b.mk (a_h (bup_ a_D.out) hb)
             replace HB:=a_b.mk (a_l (by repeat (first|(with_reducible first|exact HB.out|apply a_d|apply a_c|apply a_e|refine a_a ?_ a_L.out)|exact HB.out)) hb)
             (try clear hb)
             (try clear hb2)
             (try clear hk)
             (try clear hi)
             (try clear ho0)
             refine hK.out _ _ ((a_k a_D.out 0).trans rfl) (fun hHeld => ?_)
             clear hK K
             refine b_I (a':=?_) ?_ ?_
             rotate_left
             ·show Act.put _ (some 25) _ = _
              simp only [Act.put,sa_,sb_,sc_,c_c,c_b]
              rfl
             exact b_I (by first|(simp only [b_m,Act.put,sa_,sb_,sc_];done)|(simp only [b_m,Act.put,sa_,sb_,sc_];rfl)) (hJ1 (v253) _ ⟨hHeld,(rup_ b_J.out),(bup_ a_D.out),(by repeat (first|(with_reducible first|exact HB.out|apply a_d|apply a_c|apply a_e|refine a_a ?_ a_L.out)|exact HB.out))⟩)
            ·skip
             refine b_8 ?hg (N:=7) ?hd (cs:=#[.slice none 0 0]) (t:=24) ?hr ?_;(case hd => rfl);(case hg => rfl);(case hr => first|(go_simp;done)|(go_simp;rfl))
             intro a_0 hg w12 hbox hb
             have a_K:=a_b.mk (hbox)
             have c_S:=a_b.mk ((by rw [hg];exact (a_i (by repeat (first|(with_reducible first|exact HB.out|apply a_d|apply a_c|apply a_e|refine a_a ?_ a_L.out)|exact HB.out))) : w.heap.size ≤ a_0))
             have a_P:=a_b.mk ((by rw [hg];exact (a_i (by repeat (first|(with_reducible first|exact HB.out|apply a_d|apply a_c|apply a_e|refine a_a ?_ a_L.out)|exact HB.out))) : w.heap.size ≤ a_0))
             have a_Y:=a_b.mk ((by rw [hg];exact Nat.ne_of_lt (a_M (bup_ a_D.out)) : a_W ≠ a_0))
             have a_3:=a_b.mk ((by rw [hg];exact Nat.ne_of_gt (a_M (bup_ a_D.out)) : a_0 ≠ a_W))
             replace a_D:=a_b.mk (a_h (bup_ a_D.out) hb)
             replace HB:=a_b.mk (a_l (by repeat (first|(with_reducible first|exact HB.out|apply a_d|apply a_c|apply a_e|refine a_a ?_ a_L.out)|exact HB.out)) hb)
             clear hb hbox hg
             refine hK.out _ _ ((a_k a_D.out 0).trans rfl) (fun hHeld => ?_)
             clear hK K
             refine b_I (a':=?_) ?_ ?_
             rotate_left
             ·show Act.put _ (some 7) _ = _
              simp only [Act.put,sa_,sb_,sc_,c_c,c_b]
              rfl
             exact b_I (by first|(simp only [b_m,Act.put,sa_,sb_,sc_];done)|(simp only [b_m,Act.put,sa_,sb_,sc_];rfl)) (hJ4 (a_0) _ ⟨hHeld,(bup_ a_D.out),(bup_ a_K.out),c_S.out,a_P.out,a_Y.out,a_3.out,(by repeat (first|(with_reducible first|exact HB.out|apply a_d|apply a_c|apply a_e|refine a_a ?_ a_L.out|refine a_a ?_ a_P.out)|exact HB.out))⟩)
            skip
            refine b_8 ?hg (N:=8) ?hd (cs:=#[.slice none 0 0]) (t:=24) ?hr ?_;(case hd => rfl);(case hg => rfl);(case hr => first|(go_simp;done)|(go_simp;rfl))
            intro a_X hg w12 hbox hb
            have a_I:=a_b.mk (hbox)
            have c_T:=a_b.mk ((by rw [hg];exact (a_i (by repeat (first|(with_reducible first|exact HB.out|apply a_d|apply a_c|apply a_e|refine a_a ?_ a_L.out)|exact HB.out))) : w.heap.size ≤ a_X))
            have a_Q:=a_b.mk ((by rw [hg];exact (a_i (by repeat (first|(with_reducible first|exact HB.out|apply a_d|apply a_c|apply a_e|refine a_a ?_ a_L.out)|exact HB.out))) : w.heap.size ≤ a_X))
            have a_Z:=a_b.mk ((by rw [hg];exact Nat.ne_of_lt (a_M (bup_ a_D.out)) : a_W ≠ a_X))
            have a_4:=a_b.mk ((by rw [hg];exact Nat.ne_of_gt (a_M (bup_ a_D.out)) : a_X ≠ a_W))
            replace a_D:=a_b.mk (a_h (bup_ a_D.out) hb)
            replace HB:=a_b.mk (a_l (by repeat (first|(with_reducible first|exact HB.out|apply a_d|apply a_c|apply a_e|refine a_a ?_ a_L.out)|exact HB.out)) hb)
            clear hb hbox hg
            refine hK.out _ _ ((a_k a_D.out 0).trans rfl) (fun hHeld => ?_)
            clear hK K
            refine b_I (a':=?_) ?_ ?_
            rotate_left
            ·show Act.put _ (some 8) _ = _
             simp only [Act.put,sa_,sb_,sc_,c_c,c_b]
             rfl
            exact b_I (by first|(simp only [b_m,Act.put,sa_,sb_,sc_];done)|(simp only [b_m,Act.put,sa_,sb_,sc_];rfl)) (hJ5 (a_X) _ ⟨hHeld,(bup_ a_D.out),(bup_ a_I.out),c_T.out,a_Q.out,a_Z.out,a_4.out,(by repeat (first|(with_reducible first|exact HB.out|apply a_d|apply a_c|apply a_e|refine a_a ?_ a_L.out|refine a_a ?_ a_Q.out)|exact HB.out))⟩)
           skip
           rintro a_X w13 ⟨hS_,h0_,h1_,h2_,h3_,h4_,h5_,h6_⟩
           have a_I : a_b (w13.heap[a_X]? = some (.cells #[.slice none 0 0] 24 (0,0))):=⟨h1_⟩
           have c_T : a_b (w.heap.size ≤ a_X):=⟨h2_⟩
           have a_Q : a_b (w.heap.size ≤ a_X):=⟨h3_⟩
           have a_Z : a_b (a_W ≠ a_X):=⟨h4_⟩
           have a_4 : a_b (a_X ≠ a_W):=⟨h5_⟩
           replace a_D : a_b (w13.heap[a_W]? = some (.cells #[.slice A0_0 l0_0.length c0_0] 24 (0,0))):=⟨h0_⟩
           replace HB : a_b (Below w.heap.size w w13):=⟨h6_⟩
           clear h0_ h1_ h2_ h3_ h4_ h5_ h6_
           have hHeld : w13.cell? ⟨a_W,0,none⟩ = some (.slice A0_0 l0_0.length c0_0):=hS_
           refine b_I (a':=?_) ?_ ?_
           rotate_left
           ·simp only [b_m,Act.put,sa_,sb_,sc_]
            rfl
           refine two_ (i:=1) (j:=4) (Ni:=some 25) (Nj:=some 7) #[T_,T_,T_,F_,F_,T_,F_,F_] #[T_,F_,T_,F_,T_,T_,F_,F_] rfl rfl rfl rfl (e_S HT_.out (by kernel_rfl)) (by decide) (by decide) (fun K hK => ?_) (fun K hK => ?_)
           ·skip
            refine f_x Tryd.func11 (by kernel_rfl) rfl #[.agg #[.slice A0_0 l0_0.length c0_0]] (by rfl) rfl rfl (by (try simp only [List.map_toArray,List.map_cons,List.map_nil]);first|done|rfl|(simp only [List.length_drop,List.length_take];rfl)) ?_
            with_reducible refine (a_H.calls _ _ l0_0 t252 _ ?side1 ?side2 A6.out).mono ?_
            (case side1 => repeat (first|exact (Kd.b_d b_l.out HB.out)|(with_reducible refine Kd.a_N ?_ _)|(with_reducible refine Kd.a_O ?_ _)|(with_reducible refine Kd.a_8 ?_)))
            (case side2 => exact c_h.out)
            rintro e w14 ⟨v253,rfl,ho0,hb⟩
            refine ⟨_,rfl,?_⟩
            have b_J:=a_b.mk (Kd.b_o ho0 (a_i (by repeat (first|(with_reducible first|exact HB.out|apply a_d|apply a_c|apply a_e|refine a_a ?_ a_L.out|refine a_a ?_ a_Q.out)|exact HB.out))))
            replace a_D:=a_b.mk (a_h (bup_ a_D.out) hb)
            replace a_I:=a_b.mk (a_h (bup_ a_I.out) hb)
            replace HB:=a_b.mk (a_l (by repeat (first|(with_reducible first|exact HB.out|apply a_d|apply a_c|apply a_e|refine a_a ?_ a_L.out|refine a_a ?_ a_Q.out)|exact HB.out)) hb)
            (try clear hb)
            (try clear hb2)
            (try clear hk)
            (try clear hi)
            (try clear ho0)
            refine hK.out _ _ ((a_k a_D.out 0).trans rfl) (fun hHeld => ?_)
            clear hK K
            refine b_I (a':=?_) ?_ ?_
            rotate_left
            ·show Act.put _ (some 25) _ = _
             simp only [Act.put,sa_,sb_,sc_,c_c,c_b]
             rfl
            exact b_I (by first|(simp only [b_m,Act.put,sa_,sb_,sc_];done)|(simp only [b_m,Act.put,sa_,sb_,sc_];rfl)) (k_d (v253,a_X) _ ⟨hHeld,(rup_ b_J.out),(bup_ a_D.out),(bup_ a_I.out),c_T.out,a_Q.out,a_Z.out,a_4.out,(by repeat (first|(with_reducible first|exact HB.out|apply a_d|apply a_c|apply a_e|refine a_a ?_ a_L.out|refine a_a ?_ a_Q.out)|exact HB.out))⟩)
           skip
           refine b_8 ?hg (N:=7) ?hd (cs:=#[.slice none 0 0]) (t:=24) ?hr ?_;(case hd => rfl);(case hg => rfl);(case hr => first|(go_simp;done)|(go_simp;rfl))
           intro a_0 hg w14 hbox hb
           have a_K:=a_b.mk (hbox)
           have c_S:=a_b.mk ((by rw [hg];exact (a_i (by repeat (first|(with_reducible first|exact HB.out|apply a_d|apply a_c|apply a_e|refine a_a ?_ a_L.out|refine a_a ?_ a_Q.out)|exact HB.out))) : w.heap.size ≤ a_0))
           have a_P:=a_b.mk ((by rw [hg];exact (a_i (by repeat (first|(with_reducible first|exact HB.out|apply a_d|apply a_c|apply a_e|refine a_a ?_ a_L.out|refine a_a ?_ a_Q.out)|exact HB.out))) : w.heap.size ≤ a_0))
           have a_Y:=a_b.mk ((by rw [hg];exact Nat.ne_of_lt (a_M (bup_ a_D.out)) : a_W ≠ a_0))
           have a_3:=a_b.mk ((by rw [hg];exact Nat.ne_of_gt (a_M (bup_ a_D.out)) : a_0 ≠ a_W))
           have a_7:=a_b.mk ((by rw [hg];exact Nat.ne_of_lt (a_M (bup_ a_I.out)) : a_X ≠ a_0))
           have a_6:=a_b.mk ((by rw [hg];exact Nat.ne_of_gt (a_M (bup_ a_I.out)) : a_0 ≠ a_X))
           replace a_D:=a_b.mk (a_h (bup_ a_D.out) hb)
           replace a_I:=a_b.mk (a_h (bup_ a_I.out) hb)
           replace HB:=a_b.mk (a_l (by repeat (first|(with_reducible first|exact HB.out|apply a_d|apply a_c|apply a_e|refine a_a ?_ a_L.out|refine a_a ?_ a_Q.out)|exact HB.out)) hb)
           clear hb hbox hg
           refine hK.out _ _ ((a_k a_D.out 0).trans rfl) (fun hHeld => ?_)
           clear hK K
           refine b_I (a':=?_) ?_ ?_
           rotate_left
           ·show Act.put _ (some 7) _ = _
            simp only [Act.put,sa_,sb_,sc_,c_c,c_b]
            rfl
           exact b_I (by first|(simp only [b_m,Act.put,sa_,sb_,sc_];done)|(simp only [b_m,Act.put,sa_,sb_,sc_];rfl)) (k_e (a_0,a_X) _ ⟨hHeld,(bup_ a_D.out),(bup_ a_K.out),(bup_ a_I.out),c_S.out,a_P.out,a_Y.out,a_3.out,a_7.out,a_6.out,c_T.out,a_Q.out,a_Z.out,a_4.out,(by repeat (first|(with_reducible first|exact HB.out|apply a_d|apply a_c|apply a_e|refine a_a ?_ a_L.out|refine a_a ?_ a_Q.out|refine a_a ?_ a_P.out)|exact HB.out))⟩)
          skip
          rintro a_0 w13 ⟨hS_,h0_,h1_,h2_,h3_,h4_,h5_,h6_⟩
          have a_K : a_b (w13.heap[a_0]? = some (.cells #[.slice none 0 0] 24 (0,0))):=⟨h1_⟩
          have c_S : a_b (w.heap.size ≤ a_0):=⟨h2_⟩
          have a_P : a_b (w.heap.size ≤ a_0):=⟨h3_⟩
          have a_Y : a_b (a_W ≠ a_0):=⟨h4_⟩
          have a_3 : a_b (a_0 ≠ a_W):=⟨h5_⟩
          replace a_D : a_b (w13.heap[a_W]? = some (.cells #[.slice A0_0 l0_0.length c0_0] 24 (0,0))):=⟨h0_⟩
          replace HB : a_b (Below w.heap.size w w13):=⟨h6_⟩
          clear h0_ h1_ h2_ h3_ h4_ h5_ h6_
          have hHeld : w13.cell? ⟨a_W,0,none⟩ = some (.slice A0_0 l0_0.length c0_0):=hS_
          refine b_I (a':=?_) ?_ ?_
          rotate_left
          ·simp only [b_m,Act.put,sa_,sb_,sc_]
           rfl
          refine two_ (i:=1) (j:=5) (Ni:=some 25) (Nj:=some 8) #[T_,T_,T_,F_,T_,F_,F_,F_] #[T_,F_,T_,F_,T_,T_,F_,F_] rfl rfl rfl rfl (e_S HT_.out (by kernel_rfl)) (by decide) (by decide) (fun K hK => ?_) (fun K hK => ?_)
          ·skip
           refine f_x Tryd.func11 (by kernel_rfl) rfl #[.agg #[.slice A0_0 l0_0.length c0_0]] (by rfl) rfl rfl (by (try simp only [List.map_toArray,List.map_cons,List.map_nil]);first|done|rfl|(simp only [List.length_drop,List.length_take];rfl)) ?_
           with_reducible refine (a_H.calls _ _ l0_0 t252 _ ?side1 ?side2 A6.out).mono ?_
           (case side1 => repeat (first|exact (Kd.b_d b_l.out HB.out)|(with_reducible refine Kd.a_N ?_ _)|(with_reducible refine Kd.a_O ?_ _)|(with_reducible refine Kd.a_8 ?_)))
           (case side2 => exact c_h.out)
           rintro e w14 ⟨v253,rfl,ho0,hb⟩
           refine ⟨_,rfl,?_⟩
           have b_J:=a_b.mk (Kd.b_o ho0 (a_i (by repeat (first|(with_reducible first|exact HB.out|apply a_d|apply a_c|apply a_e|refine a_a ?_ a_L.out|refine a_a ?_ a_P.out)|exact HB.out))))
           replace a_D:=a_b.mk (a_h (bup_ a_D.out) hb)
           replace a_K:=a_b.mk (a_h (bup_ a_K.out) hb)
           replace HB:=a_b.mk (a_l (by repeat (first|(with_reducible first|exact HB.out|apply a_d|apply a_c|apply a_e|refine a_a ?_ a_L.out|refine a_a ?_ a_P.out)|exact HB.out)) hb)
           (try clear hb)
           (try clear hb2)
           (try clear hk)
           (try clear hi)
           (try clear ho0)
           refine hK.out _ _ ((a_k a_D.out 0).trans rfl) (fun hHeld => ?_)
           clear hK K
           refine b_I (a':=?_) ?_ ?_
           rotate_left
           ·show Act.put _ (some 25) _ = _
            simp only [Act.put,sa_,sb_,sc_,c_c,c_b]
            rfl
           exact b_I (by first|(simp only [b_m,Act.put,sa_,sb_,sc_];done)|(simp only [b_m,Act.put,sa_,sb_,sc_];rfl)) (k_b (v253,a_0) _ ⟨hHeld,(rup_ b_J.out),(bup_ a_D.out),(bup_ a_K.out),c_S.out,a_P.out,a_Y.out,a_3.out,(by repeat (first|(with_reducible first|exact HB.out|apply a_d|apply a_c|apply a_e|refine a_a ?_ a_L.out|refine a_a ?_ a_P.out)|exact HB.out))⟩)
          skip
          refine b_8 ?hg (N:=8) ?hd (cs:=#[.slice none 0 0]) (t:=24) ?hr ?_;(case hd => rfl);(case hg => rfl);(case hr => first|(go_simp;done)|(go_simp;rfl))
          intro a_X hg w14 hbox hb
          have a_I:=a_b.mk (hbox)
          have c_T:=a_b.mk ((by rw [hg];exact (a_i (by repeat (first|(with_reducible first|exact HB.out|apply a_d|apply a_c|apply a_e|refine a_a ?_ a_L.out|refine a_a ?_ a_P.out)|exact HB.out))) : w.heap.size ≤ a_X))
          have a_Q:=a_b.mk ((by rw [hg];exact (a_i (by repeat (first|(with_reducible first|exact HB.out|apply a_d|apply a_c|apply a_e|refine a_a ?_ a_L.out|refine a_a ?_ a_P.out)|exact HB.out))) : w.heap.size ≤ a_X))
          have a_Z:=a_b.mk ((by rw [hg];exact Nat.ne_of_lt (a_M (bup_ a_D.out)) : a_W ≠ a_X))
          have a_4:=a_b.mk ((by rw [hg];exact Nat.ne_of_gt (a_M (bup_ a_D.out)) : a_X ≠ a_W))
          have a_6:=a_b.mk ((by rw [hg];exact Nat.ne_of_lt (a_M (bup_ a_K.out)) : a_0 ≠ a_X))
          have a_7:=a_b.mk ((by rw [hg];exact Nat.ne_of_gt (a_M (bup_ a_K.out)) : a_X ≠ a_0))
          replace a_D:=a_b.mk (a_h (bup_ a_D.out) hb)
          replace a_K:=a_b.mk (a_h (bup_ a_K.out) hb)
          replace HB:=a_b.mk (a_l (by repeat (first|(with_reducible first|exact HB.out|apply a_d|apply a_c|apply a_e|refine a_a ?_ a_L.out|refine a_a ?_ a_P.out)|exact HB.out)) hb)
          clear hb hbox hg
          refine hK.out _ _ ((a_k a_D.out 0).trans rfl) (fun hHeld => ?_)
          clear hK K
          refine b_I (a':=?_) ?_ ?_
          rotate_left
          ·show Act.put _ (some 8) _ = _
           simp only [Act.put,sa_,sb_,sc_,c_c,c_b]
           rfl
          exact b_I (by first|(simp only [b_m,Act.put,sa_,sb_,sc_];done)|(simp only [b_m,Act.put,sa_,sb_,sc_];rfl)) (k_e (a_0,a_X) _ ⟨hHeld,(bup_ a_D.out),(bup_ a_K.out),(bup_ a_I.out),c_S.out,a_P.out,a_Y.out,a_3.out,a_7.out,a_6.out,c_T.out,a_Q.out,a_Z.out,a_4.out,(by repeat (first|(with_reducible first|exact HB.out|apply a_d|apply a_c|apply a_e|refine a_a ?_ a_L.out|refine a_a ?_ a_P.out|refine a_a ?_ a_Q.out)|exact HB.out))⟩)
         skip
         rintro v253 w13 ⟨hS_,h0_,h1_,h2_⟩
         have b_J : a_b (Kd.R k56 56 w13 w.heap.size (fun _ => True) v253 t252):=⟨h0_⟩
         replace a_D : a_b (w13.heap[a_W]? = some (.cells #[.slice A0_0 l0_0.length c0_0] 24 (0,0))):=⟨h1_⟩
         replace HB : a_b (Below w.heap.size w w13):=⟨h2_⟩
         clear h0_ h1_ h2_
         have hHeld : w13.cell? ⟨a_W,0,none⟩ = some (.slice A0_0 l0_0.length c0_0):=hS_
         refine b_I (a':=?_) ?_ ?_
         rotate_left
         ·simp only [b_m,Act.put,sa_,sb_,sc_]
          rfl
         refine i_Y (i:=3) (j:=4) (k:=5) (Ni:=some 27) (Nj:=some 7) (Nk:=some 8) #[T_,T_,T_,T_,F_,F_,F_,F_] #[T_,T_,T_,F_,T_,F_,F_,F_] #[T_,T_,T_,F_,F_,T_,F_,F_] rfl rfl rfl rfl rfl rfl (g_X HT_.out (by kernel_rfl)) (by decide) (by decide) (by decide) (fun K hK => ?_) (fun K hK => ?_) (fun K hK => ?_)
         ·skip
          refine f_x Tryd.func11 (by kernel_rfl) rfl #[.agg #[.slice A0_0 l0_0.length c0_0]] (by rfl) rfl rfl (by (try simp only [List.map_toArray,List.map_cons,List.map_nil]);first|done|rfl|(simp only [List.length_drop,List.length_take];rfl)) ?_
          with_reducible refine (a_H.calls _ _ l0_0 t255 _ ?side1 ?side2 A7.out).mono ?_
          (case side1 => repeat (first|exact (Kd.b_d b_l.out HB.out)|(with_reducible refine Kd.a_N ?_ _)|(with_reducible refine Kd.a_O ?_ _)|(with_reducible refine Kd.a_8 ?_)))
          (case side2 => exact c_h.out)
          rintro e w14 ⟨v256,rfl,ho0,hb⟩
          refine ⟨_,rfl,?_⟩
          have c_F:=a_b.mk (Kd.b_o (Kd.e_g ho0 (Kd.R_lt (rup_ b_J.out))) (a_i (by repeat (first|(with_reducible first|exact HB.out|apply a_d|apply a_c|apply a_e|refine a_a ?_ a_L.out)|exact HB.out))))
          replace b_J:=a_b.mk (Kd.d_a (rup_ b_J.out) (Kd.e_e ho0) hb)
          replace a_D:=a_b.mk (a_h (bup_ a_D.out) hb)
          replace HB:=a_b.mk (a_l (by repeat (first|(with_reducible first|exact HB.out|apply a_d|apply a_c|apply a_e|refine a_a ?_ a_L.out)|exact HB.out)) hb)
          (try clear hb)
          (try clear hb2)
          (try clear hk)
          (try clear hi)
          (try clear ho0)
          refine hK.out _ _ ((a_k a_D.out 0).trans rfl) (fun hHeld => ?_)
          clear hK K
          refine b_I (a':=?_) ?_ ?_
          rotate_left
          ·show Act.put _ (some 27) _ = _
           simp only [Act.put,sa_,sb_,sc_,c_c,c_b]
           rfl
          exact b_I (by first|(simp only [b_m,Act.put,sa_,sb_,sc_];done)|(simp only [b_m,Act.put,sa_,sb_,sc_];rfl)) (n_o (v253,v256) _ ⟨hHeld,(by (with_reducible repeat (first|apply Kd.a_T|apply Kd.a_U|apply Kd.a_9));exact Kd.b_z b_J.out (fun _ hk => hk.2)),(by (with_reducible repeat (first|apply Kd.a_T|apply Kd.a_U|apply Kd.a_9));exact Kd.b_z c_F.out (fun _ hk => hk.2)),(bup_ a_D.out),(by repeat (first|(with_reducible first|exact HB.out|apply a_d|apply a_c|apply a_e|refine a_a ?_ a_L.out)|exact HB.out))⟩)
         ·skip
          refine b_8 ?hg (N:=7) ?hd (cs:=#[.slice none 0 0]) (t:=24) ?hr ?_;(case hd => rfl);(case hg => rfl);(case hr => first|(go_simp;done)|(go_simp;rfl))
          intro a_0 hg w14 hbox hb
          have a_K:=a_b.mk (hbox)
          have c_S:=a_b.mk ((by rw [hg];exact (a_i (by repeat (first|(with_reducible first|exact HB.out|apply a_d|apply a_c|apply a_e|refine a_a ?_ a_L.out)|exact HB.out))) : w.heap.size ≤ a_0))
          have a_P:=a_b.mk ((by rw [hg];exact (a_i (by repeat (first|(with_reducible first|exact HB.out|apply a_d|apply a_c|apply a_e|refine a_a ?_ a_L.out)|exact HB.out))) : w.heap.size ≤ a_0))
          have a_Y:=a_b.mk ((by rw [hg];exact Nat.ne_of_lt (a_M (bup_ a_D.out)) : a_W ≠ a_0))
          have a_3:=a_b.mk ((by rw [hg];exact Nat.ne_of_gt (a_M (bup_ a_D.out)) : a_0 ≠ a_W))
          replace b_J:=a_b.mk (Kd.a_B (rup_ b_J.out) hb)
          replace a_D:=a_b.mk (a_h (bup_ a_D.out) hb)
          replace HB:=a_b.mk (a_l (by repeat (first|(with_reducible first|exact HB.out|apply a_d|apply a_c|apply a_e|refine a_a ?_ a_L.out)|exact HB.out)) hb)
          clear hb hbox hg
          refine hK.out _ _ ((a_k a_D.out 0).trans rfl) (fun hHeld => ?_)
          clear hK K
          refine b_I (a':=?_) ?_ ?_
          rotate_left
          ·show Act.put _ (some 7) _ = _
           simp only [Act.put,sa_,sb_,sc_,c_c,c_b]
           rfl
          exact b_I (by first|(simp only [b_m,Act.put,sa_,sb_,sc_];done)|(simp only [b_m,Act.put,sa_,sb_,sc_];rfl)) (k_b (v253,a_0) _ ⟨hHeld,(rup_ b_J.out),(bup_ a_D.out),(bup_ a_K.out),c_S.out,a_P.out,a_Y.out,a_3.out,(by repeat (first|(with_reducible first|exact HB.out|apply a_d|apply a_c|apply a_e|refine a_a ?_ a_L.out|refine a_a ?_ a_P.out)|exact HB.out))⟩)
         skip
         refine b_8 ?hg (N:=8) ?hd (cs:=#[.slice none 0 0]) (t:=24) ?hr ?_;(case hd => rfl);(case hg => rfl);(case hr => first|(go_simp;done)|(go_simp;rfl))
         intro a_X hg w14 hbox hb
         have a_I:=a_b.mk (hbox)
         have c_T:=a_b.mk ((by rw [hg];exact (a_i (by repeat (first|(with_reducible first|exact HB.out|apply a_d|apply a_c|apply a_e|refine a_a ?_ a_L.out)|exact HB.out))) : w.heap.size ≤ a_X))
         have a_Q:=a_b.mk ((by rw [hg];exact (a_i (by repeat (first|(with_reducible first|exact HB.out|apply a_d|apply a_c|apply a_e|refine a_a ?_ a_L.out)|exact HB.out))) : w.heap.size ≤ a_X))
         have a_Z:=a_b.mk ((by rw [hg];exact Nat.ne_of_lt (a_M (bup_ a_D.out)) : a_W ≠ a_X))
         have a_4:=a_b.mk ((by rw [hg];exact Nat.ne_of_gt (a_M (bup_ a_D.out)) : a_X ≠ a_W))
         replace b_J:=a_b.mk (Kd.a_B (rup_ b_J.out) hb)
         replace a_D:=a_b.mk (a_h (bup_ a_D.out) hb)
         replace HB:=a_b.mk (a_l (by repeat (first|(with_reducible first|exact HB.out|apply a_d|apply a_c|apply a_e|refine a_a ?_ a_L.out)|exact HB.out)) hb)
         clear hb hbox hg
         refine hK.out _ _ ((a_k a_D.out 0).trans rfl) (fun hHeld => ?_)
         clear hK K
         refine b_I (a':=?_) ?_ ?_
         rotate_left
         ·show Act.put _ (some 8) _ = _
          simp only [Act.put,sa_,sb_,sc_,c_c,c_b]
          rfl
         exact b_I (by first|(simp only [b_m,Act.put,sa_,sb_,sc_];done)|(simp only [b_m,Act.put,sa_,sb_,sc_];rfl)) (k_d (v253,a_X) _ ⟨hHeld,(rup_ b_J.out),(bup_ a_D.out),(bup_ a_I.out),c_T.out,a_Q.out,a_Z.out,a_4.out,(by repeat (first|(with_reducible first|exact HB.out|apply a_d|apply a_c|apply a_e|refine a_a ?_ a_L.out|refine a_a ?_ a_Q.out)|exact HB.out))⟩)
        skip
        rintro ⟨a_0,a_X⟩ w14 ⟨hS_,h0_,h1_,h2_,h3_,h4_,h5_,h6_,h7_,h8_,h9_,h10_,h11_,h12_,h13_⟩
        have a_K : a_b (w14.heap[a_0]? = some (.cells #[.slice none 0 0] 24 (0,0))):=⟨h1_⟩
        have a_I : a_b (w14.heap[a_X]? = some (.cells #[.slice none 0 0] 24 (0,0))):=⟨h2_⟩
        have c_S : a_b (w.heap.size ≤ a_0):=⟨h3_⟩
        have a_P : a_b (w.heap.size ≤ a_0):=⟨h4_⟩
        have a_Y : a_b (a_W ≠ a_0):=⟨h5_⟩
        have a_3 : a_b (a_0 ≠ a_W):=⟨h6_⟩
        have a_7 : a_b (a_X ≠ a_0):=⟨h7_⟩
        have a_6 : a_b (a_0 ≠ a_X):=⟨h8_⟩
        have c_T : a_b (w.heap.size ≤ a_X):=⟨h9_⟩
        have a_Q : a_b (w.heap.size ≤ a_X):=⟨h10_⟩
        have a_Z : a_b (a_W ≠ a_X):=⟨h11_⟩
        have a_4 : a_b (a_X ≠ a_W):=⟨h12_⟩
        replace a_D : a_b (w14.heap[a_W]? = some (.cells #[.slice A0_0 l0_0.length c0_0] 24 (0,0))):=⟨h0_⟩
        replace HB : a_b (Below w.heap.size w w14):=⟨h13_⟩
        clear h0_ h1_ h2_ h3_ h4_ h5_ h6_ h7_ h8_ h9_ h10_ h11_ h12_ h13_
        have hHeld : w14.cell? ⟨a_W,0,none⟩ = some (.slice A0_0 l0_0.length c0_0):=hS_
        refine b_I (a':=?_) ?_ ?_
        rotate_left
        ·simp only [b_m,Act.put,sa_,sb_,sc_]
         rfl
        refine one_ (i:=1) (N:=some 25) Z0_ rfl rfl (c_8 HT_.out (by kernel_rfl)) (by decide) (fun K hK => ?_)
        refine f_x Tryd.func11 (by kernel_rfl) rfl #[.agg #[.slice A0_0 l0_0.length c0_0]] (by rfl) rfl rfl (by (try simp only [List.map_toArray,List.map_cons,List.map_nil]);first|done|rfl|(simp only [List.length_drop,List.length_take];rfl)) ?_
        with_reducible refine (a_H.calls _ _ l0_0 t252 _ ?side1 ?side2 A6.out).mono ?_
        (case side1 => repeat (first|exact (Kd.b_d b_l.out HB.out)|(with_reducible refine Kd.a_N ?_ _)|(with_reducible refine Kd.a_O ?_ _)|(with_reducible refine Kd.a_8 ?_)))
        (case side2 => exact c_h.out)
        rintro e w15 ⟨v253,rfl,ho0,hb⟩
        refine ⟨_,rfl,?_⟩
        have b_J:=a_b.mk (Kd.b_o ho0 (a_i (by repeat (first|(with_reducible first|exact HB.out|apply a_d|apply a_c|apply a_e|refine a_a ?_ a_L.out|refine a_a ?_ a_P.out|refine a_a ?_ a_Q.out)|exact HB.out))))
        replace a_D:=a_b.mk (a_h (bup_ a_D.out) hb)
        replace a_K:=a_b.mk (a_h (bup_ a_K.out) hb)
        replace a_I:=a_b.mk (a_h (bup_ a_I.out) hb)
        replace HB:=a_b.mk (a_l (by repeat (first|(with_reducible first|exact HB.out|apply a_d|apply a_c|apply a_e|refine a_a ?_ a_L.out|refine a_a ?_ a_P.out|refine a_a ?_ a_Q.out)|exact HB.out)) hb)
        (try clear hb)
        (try clear hb2)
        (try clear hk)
        (try clear hi)
        (try clear ho0)
        refine hK.out _ _ ((a_k a_D.out 0).trans rfl) (fun hHeld => ?_)
        clear hK K
        refine b_I (a':=?_) ?_ ?_
        rotate_left
        ·show Act.put _ (some 25) _ = _
         simp only [Act.put,sa_,sb_,sc_,c_c,c_b]
         rfl
        exact b_I (by first|(simp only [b_m,Act.put,sa_,sb_,sc_];done)|(simp only [b_m,Act.put,sa_,sb_,sc_];rfl)) (f_R (v253,a_0,a_X) _ ⟨hHeld,(rup_ b_J.out),(bup_ a_D.out),(bup_ a_K.out),(bup_ a_I.out),c_S.out,a_P.out,a_Y.out,a_3.out,a_7.out,a_6.out,c_T.out,a_Q.out,a_Z.out,a_4.out,(by repeat (first|(with_reducible first|exact HB.out|apply a_d|apply a_c|apply a_e|refine a_a ?_ a_L.out|refine a_a ?_ a_P.out|refine a_a ?_ a_Q.out)|exact HB.out))⟩)
       skip
       rintro ⟨v253,a_X⟩ w14 ⟨hS_,h0_,h1_,h2_,h3_,h4_,h5_,h6_,h7_⟩
       have b_J : a_b (Kd.R k56 56 w14 w.heap.size (fun _ => True) v253 t252):=⟨h0_⟩
       have a_I : a_b (w14.heap[a_X]? = some (.cells #[.slice none 0 0] 24 (0,0))):=⟨h2_⟩
       have c_T : a_b (w.heap.size ≤ a_X):=⟨h3_⟩
       have a_Q : a_b (w.heap.size ≤ a_X):=⟨h4_⟩
       have a_Z : a_b (a_W ≠ a_X):=⟨h5_⟩
       have a_4 : a_b (a_X ≠ a_W):=⟨h6_⟩
       replace a_D : a_b (w14.heap[a_W]? = some (.cells #[.slice A0_0 l0_0.length c0_0] 24 (0,0))):=⟨h1_⟩
       replace HB : a_b (Below w.heap.size w w14):=⟨h7_⟩
       clear h0_ h1_ h2_ h3_ h4_ h5_ h6_ h7_
       have hHeld : w14.cell? ⟨a_W,0,none⟩ = some (.slice A0_0 l0_0.length c0_0):=hS_
       refine b_I (a':=?_) ?_ ?_
       rotate_left
       ·simp only [b_m,Act.put,sa_,sb_,sc_]
        rfl
       refine two_ (i:=3) (j:=4) (Ni:=some 27) (Nj:=some 7) #[T_,T_,T_,T_,F_,T_,F_,F_] Z0_ rfl rfl rfl rfl (e_S HT_.out (by kernel_rfl)) (by decide) (by decide) (fun K hK => ?_) (fun K hK => ?_)
       ·skip
        refine f_x Tryd.func11 (by kernel_rfl) rfl #[.agg #[.slice A0_0 l0_0.length c0_0]] (by rfl) rfl rfl (by (try simp only [List.map_toArray,List.map_cons,List.map_nil]);first|done|rfl|(simp only [List.length_drop,List.length_take];rfl)) ?_
        with_reducible refine (a_H.calls _ _ l0_0 t255 _ ?side1 ?side2 A7.out).mono ?_
        (case side1 => repeat (first|exact (Kd.b_d b_l.out HB.out)|(with_reducible refine Kd.a_N ?_ _)|(with_reducible refine Kd.a_O ?_ _)|(with_reducible refine Kd.a_8 ?_)))
        (case side2 => exact c_h.out)
        rintro e w15 ⟨v256,rfl,ho0,hb⟩
        refine ⟨_,rfl,?_⟩
        have c_F:=a_b.mk (Kd.b_o (Kd.e_g ho0 (Kd.R_lt (rup_ b_J.out))) (a_i (by repeat (first|(with_reducible first|exact HB.out|apply a_d|apply a_c|apply a_e|refine a_a ?_ a_L.out|refine a_a ?_ a_Q.out)|exact HB.out))))
        replace b_J:=a_b.mk (Kd.d_a (rup_ b_J.out) (Kd.e_e ho0) hb)
        replace a_D:=a_b.mk (a_h (bup_ a_D.out) hb)
        replace a_I:=a_b.mk (a_h (bup_ a_I.out) hb)
        replace HB:=a_b.mk (a_l (by repeat (first|(with_reducible first|exact HB.out|apply a_d|apply a_c|apply a_e|refine a_a ?_ a_L.out|refine a_a ?_ a_Q.out)|exact HB.out)) hb)
        (try clear hb)
        (try clear hb2)
        (try clear hk)
        (try clear hi)
        (try clear ho0)
        refine hK.out _ _ ((a_k a_D.out 0).trans rfl) (fun hHeld => ?_)
        clear hK K
        refine b_I (a':=?_) ?_ ?_
        rotate_left
        ·show Act.put _ (some 27) _ = _
         simp only [Act.put,sa_,sb_,sc_,c_c,c_b]
         rfl
        exact b_I (by first|(simp only [b_m,Act.put,sa_,sb_,sc_];done)|(simp only [b_m,Act.put,sa_,sb_,sc_];rfl)) (h_E (v253,v256,a_X) _ ⟨hHeld,(by (with_reducible repeat (first|apply Kd.a_T|apply Kd.a_U|apply Kd.a_9));exact Kd.b_z b_J.out (fun _ hk => hk.2)),(by (with_reducible repeat (first|apply Kd.a_T|apply Kd.a_U|apply Kd.a_9));exact Kd.b_z c_F.out (fun _ hk => hk.2)),(bup_ a_D.out),(bup_ a_I.out),c_T.out,a_Q.out,a_Z.out,a_4.out,(by repeat (first|(with_reducible first|exact HB.out|apply a_d|apply a_c|apply a_e|refine a_a ?_ a_L.out|refine a_a ?_ a_Q.out)|exact HB.out))⟩)
       skip
       refine b_8 ?hg (N:=7) ?hd (cs:=#[.slice none 0 0]) (t:=24) ?hr ?_;(case hd => rfl);(case hg => rfl);(case hr => first|(go_simp;done)|(go_simp;rfl))
       intro a_0 hg w15 hbox hb
       have a_K:=a_b.mk (hbox)
       have c_S:=a_b.mk ((by rw [hg];exact (a_i (by repeat (first|(with_reducible first|exact HB.out|apply a_d|apply a_c|apply a_e|refine a_a ?_ a_L.out|refine a_a ?_ a_Q.out)|exact HB.out))) : w.heap.size ≤ a_0))
       have a_P:=a_b.mk ((by rw [hg];exact (a_i (by repeat (first|(with_reducible first|exact HB.out|apply a_d|apply a_c|apply a_e|refine a_a ?_ a_L.out|refine a_a ?_ a_Q.out)|exact HB.out))) : w.heap.size ≤ a_0))
       have a_Y:=a_b.mk ((by rw [hg];exact Nat.ne_of_lt (a_M (bup_ a_D.out)) : a_W ≠ a_0))
       have a_3:=a_b.mk ((by rw [hg];exact Nat.ne_of_gt (a_M (bup_ a_D.out)) : a_0 ≠ a_W))
       have a_7:=a_b.mk ((by rw [hg];exact Nat.ne_of_lt (a_M (bup_ a_I.out)) : a_X ≠ a_0))
       have a_6:=a_b.mk ((by rw [hg];exact Nat.ne_of_gt (a_M (bup_ a_I.out)) : a_0 ≠ a_X))
       replace b_J:=a_b.mk (Kd.a_B (rup_ b_J.out) hb)
       replace a_D:=a_b.mk (a_h (bup_ a_D.out) hb)
       replace a_I:=a_b.mk (a_h (bup_ a_I.out) hb)
       replace HB:=a_b.mk (a_l (by repeat (first|(with_reducible first|exact HB.out|apply a_d|apply a_c|apply a_e|refine a_a ?_ a_L.out|refine a_a ?_ a_Q.out)|exact HB.out)) hb)
       clear hb hbox hg
       refine hK.out _ _ ((a_k a_D.out 0).trans rfl) (fun hHeld => ?_)
       clear hK K
       refine b_I (a':=?_) ?_ ?_
       rotate_left
       ·show Act.put _ (some 7) _ = _
        simp only [Act.put,sa_,sb_,sc_,c_c,c_b]
        rfl
       exact b_I (by first|(simp only [b_m,Act.put,sa_,sb_,sc_];done)|(simp only [b_m,Act.put,sa_,sb_,sc_];rfl)) (f_R (v253,a_0,a_X) _ ⟨hHeld,(rup_ b_J.out),(bup_ a_D.out),(bup_ a_K.out),(bup_ a_I.out),c_S.out,a_P.out,a_Y.out,a_3.out,a_7.out,a_6.out,c_T.out,a_Q.out,a_Z.out,a_4.out,(by repeat (first|(with_reducible first|exact HB.out|apply a_d|apply a_c|apply a_e|refine a_a ?_ a_L.out|refine a_a ?_ a_Q.out|refine a_a ?_ a_P.out)|exact HB.out))⟩)
      skip
      rintro ⟨v253,a_0⟩ w14 ⟨hS_,h0_,h1_,h2_,h3_,h4_,h5_,h6_,h7_⟩
      have b_J : a_b (Kd.R k56 56 w14 w.heap.size (fun _ => True) v253 t252):=⟨h0_⟩
      have a_K : a_b (w14.heap[a_0]? = some (.cells #[.slice none 0 0] 24 (0,0))):=⟨h2_⟩
      have c_S : a_b (w.heap.size ≤ a_0):=⟨h3_⟩
      have a_P : a_b (w.heap.size ≤ a_0):=⟨h4_⟩
      have a_Y : a_b (a_W ≠ a_0):=⟨h5_⟩
      have a_3 : a_b (a_0 ≠ a_W):=⟨h6_⟩
      replace a_D : a_b (w14.heap[a_W]? = some (.cells #[.slice A0_0 l0_0.length c0_0] 24 (0,0))):=⟨h1_⟩
      replace HB : a_b (Below w.heap.size w w14):=⟨h7_⟩
      clear h0_ h1_ h2_ h3_ h4_ h5_ h6_ h7_
      have hHeld : w14.cell? ⟨a_W,0,none⟩ = some (.slice A0_0 l0_0.length c0_0):=hS_
      refine b_I (a':=?_) ?_ ?_
      rotate_left
      ·simp only [b_m,Act.put,sa_,sb_,sc_]
       rfl
      refine two_ (i:=3) (j:=5) (Ni:=some 27) (Nj:=some 8) #[T_,T_,T_,T_,T_,F_,F_,F_] Z0_ rfl rfl rfl rfl (e_S HT_.out (by kernel_rfl)) (by decide) (by decide) (fun K hK => ?_) (fun K hK => ?_)
      ·skip
       refine f_x Tryd.func11 (by kernel_rfl) rfl #[.agg #[.slice A0_0 l0_0.length c0_0]] (by rfl) rfl rfl (by (try simp only [List.map_toArray,List.map_cons,List.map_nil]);first|done|rfl|(simp only [List.length_drop,List.length_take];rfl)) ?_
       with_reducible refine (a_H.calls _ _ l0_0 t255 _ ?side1 ?side2 A7.out).mono ?_
       (case side1 => repeat (first|exact (Kd.b_d b_l.out HB.out)|(with_reducible refine Kd.a_N ?_ _)|(with_reducible refine Kd.a_O ?_ _)|(with_reducible refine Kd.a_8 ?_)))
       (case side2 => exact c_h.out)
       rintro e w15 ⟨v256,rfl,ho0,hb⟩
       refine ⟨_,rfl,?_⟩
       have c_F:=a_b.mk (Kd.b_o (Kd.e_g ho0 (Kd.R_lt (rup_ b_J.out))) (a_i (by repeat (first|(with_reducible first|exact HB.out|apply a_d|apply a_c|apply a_e|refine a_a ?_ a_L.out|refine a_a ?_ a_P.out)|exact HB.out))))
       replace b_J:=a_b.mk (Kd.d_a (rup_ b_J.out) (Kd.e_e ho0) hb)
       replace a_D:=a_b.mk (a_h (bup_ a_D.out) hb)
       replace a_K:=a_b.mk (a_h (bup_ a_K.out) hb)
       replace HB:=a_b.mk (a_l (by repeat (first|(with_reducible first|exact HB.out|apply a_d|apply a_c|apply a_e|refine a_a ?_ a_L.out|refine a_a ?_ a_P.out)|exact HB.out)) hb)
       (try clear hb)
       (try clear hb2)
       (try clear hk)
       (try clear hi)
       (try clear ho0)
       refine hK.out _ _ ((a_k a_D.out 0).trans rfl) (fun hHeld => ?_)
       clear hK K
       refine b_I (a':=?_) ?_ ?_
       rotate_left
       ·show Act.put _ (some 27) _ = _
        simp only [Act.put,sa_,sb_,sc_,c_c,c_b]
        rfl
       exact b_I (by first|(simp only [b_m,Act.put,sa_,sb_,sc_];done)|(simp only [b_m,Act.put,sa_,sb_,sc_];rfl)) (h_D (v253,v256,a_0) _ ⟨hHeld,(by (with_reducible repeat (first|apply Kd.a_T|apply Kd.a_U|apply Kd.a_9));exact Kd.b_z b_J.out (fun _ hk => hk.2)),(by (with_reducible repeat (first|apply Kd.a_T|apply Kd.a_U|apply Kd.a_9));exact Kd.b_z c_F.out (fun _ hk => hk.2)),(bup_ a_D.out),(bup_ a_K.out),c_S.out,a_P.out,a_Y.out,a_3.out,(by repeat (first|(with_reducible first|exact HB.out|apply a_d|apply a_c|apply a_e|refine a_a ?_ a_L.out|refine a_a ?_ a_P.out)|exact HB.out))⟩)
      skip
      refine b_8 ?hg (N:=8) ?hd (cs:=#[.slice none 0 0]) (t:=24) ?hr ?_;(case hd => rfl);(case hg => rfl);(case hr => first|(go_simp;done)|(go_simp;rfl))
      intro a_X hg w15 hbox hb
      have a_I:=a_b.mk (hbox)
      have c_T:=a_b.mk ((by rw [hg];exact (a_i (by repeat (first|(with_reducible first|exact HB.out|apply a_d|apply a_c|apply a_e|refine a_a ?_ a_L.out|refine a_a ?_ a_P.out)|exact HB.out))) : w.heap.size ≤ a_X))
      have a_Q:=a_b.mk ((by rw [hg];exact (a_i (by repeat (first|(with_reducible first|exact HB.out|apply a_d|apply a_c|apply a_e|refine a_a ?_ a_L.out|refine a_a ?_ a_P.out)|exact HB.out))) : w.heap.size ≤ a_X))
      have a_Z:=a_b.mk ((by rw [hg];exact Nat.ne_of_lt (a_M (bup_ a_D.out)) : a_W ≠ a_X))
      have a_4:=a_b.mk ((by rw [hg];exact Nat.ne_of_gt (a_M (bup_ a_D.out)) : a_X ≠ a_W))
      have a_6:=a_b.mk ((by rw [hg];exact Nat.ne_of_lt (a_M (bup_ a_K.out)) : a_0 ≠ a_X))
      have a_7:=a_b.mk ((by rw [hg];exact Nat.ne_of_gt (a_M (bup_ a_K.out)) : a_X ≠ a_0))
      replace b_J:=a_b.mk (Kd.a_B (rup_ b_J.out) hb)
      replace a_D:=a_b.mk (a_h (bup_ a_D.out) hb)
      replace a_K:=a_b.mk (a_h (bup_ a_K.out) hb)
      replace HB:=a_b.mk (a_l (by repeat (first|(with_reducible first|exact HB.out|apply a_d|apply a_c|apply a_e|refine a_a ?_ a_L.out|refine a_a ?_ a_P.out)|exact HB.out)) hb)
      clear hb hbox hg
      refine hK.out _ _ ((a_k a_D.out 0).trans rfl) (fun hHeld => ?_)
      clear hK K
      refine b_I (a':=?_) ?_ ?_
      rotate_left
      ·show Act.put _ (some 8) _ = _
       simp only [Act.put,sa_,sb_,sc_,c_c,c_b]
       rfl
      exact b_I (by first|(simp only [b_m,Act.put,sa_,sb_,sc_];done)|(simp only [b_m,Act.put,sa_,sb_,sc_];rfl)) (f_R (v253,a_0,a_X) _ ⟨hHeld,(rup_ b_J.out),(bup_ a_D.out),(bup_ a_K.out),(bup_ a_I.out),c_S.out,a_P.out,a_Y.out,a_3.out,a_7.out,a_6.out,c_T.out,a_Q.out,a_Z.out,a_4.out,(by repeat (first|(with_reducible first|exact HB.out|apply a_d|apply a_c|apply a_e|refine a_a ?_ a_L.out|refine a_a ?_ a_P.out|refine a_a ?_ a_Q.out)|exact HB.out))⟩)
     skip
     rintro ⟨v253,v256⟩ w14 ⟨hS_,h0_,h1_,h2_,h3_⟩
     have b_J : a_b (Kd.R k56 56 w14 w.heap.size (fun k_ => some k_ ≠ (v256 : Value).ownBlock) v253 t252):=⟨h0_⟩
     have c_F : a_b (Kd.R k56 56 w14 w.heap.size (fun k_ => some k_ ≠ (v253 : Value).ownBlock) v256 t255):=⟨h1_⟩
     replace a_D : a_b (w14.heap[a_W]? = some (.cells #[.slice A0_0 l0_0.length c0_0] 24 (0,0))):=⟨h2_⟩
     replace HB : a_b (Below w.heap.size w w14):=⟨h3_⟩
     clear h0_ h1_ h2_ h3_
     have hHeld : w14.cell? ⟨a_W,0,none⟩ = some (.slice A0_0 l0_0.length c0_0):=hS_
     refine b_I (a':=?_) ?_ ?_
     rotate_left
     ·simp only [b_m,Act.put,sa_,sb_,sc_]
      rfl
     refine two_ (i:=4) (j:=5) (Ni:=some 7) (Nj:=some 8) #[T_,T_,T_,T_,T_,F_,F_,F_] #[T_,T_,T_,T_,F_,T_,F_,F_] rfl rfl rfl rfl (e_S HT_.out (by kernel_rfl)) (by decide) (by decide) (fun K hK => ?_) (fun K hK => ?_)
     ·skip
      refine b_8 ?hg (N:=7) ?hd (cs:=#[.slice none 0 0]) (t:=24) ?hr ?_;(case hd => rfl);(case hg => rfl);(case hr => first|(go_simp;done)|(go_simp;rfl))
      intro a_0 hg w15 hbox hb
      have a_K:=a_b.mk (hbox)
      have c_S:=a_b.mk ((by rw [hg];exact (a_i (by repeat (first|(with_reducible first|exact HB.out|apply a_d|apply a_c|apply a_e|refine a_a ?_ a_L.out)|exact HB.out))) : w.heap.size ≤ a_0))
      have a_P:=a_b.mk ((by rw [hg];exact (a_i (by repeat (first|(with_reducible first|exact HB.out|apply a_d|apply a_c|apply a_e|refine a_a ?_ a_L.out)|exact HB.out))) : w.heap.size ≤ a_0))
      have a_Y:=a_b.mk ((by rw [hg];exact Nat.ne_of_lt (a_M (bup_ a_D.out)) : a_W ≠ a_0))
      have a_3:=a_b.mk ((by rw [hg];exact Nat.ne_of_gt (a_M (bup_ a_D.out)) : a_0 ≠ a_W))
      replace b_J:=a_b.mk (Kd.a_B (rup_ b_J.out) hb)
      replace c_F:=a_b.mk (Kd.a_B (rup_ c_F.out) hb)
      replace a_D:=a_b.mk (a_h (bup_ a_D.out) hb)
      replace HB:=a_b.mk (a_l (by repeat (first|(with_reducible first|exact HB.out|apply a_d|apply a_c|apply a_e|refine a_a ?_ a_L.out)|exact HB.out)) hb)
      clear hb hbox hg
      refine hK.out _ _ ((a_k a_D.out 0).trans rfl) (fun hHeld => ?_)
      clear hK K
      refine b_I (a':=?_) ?_ ?_
      rotate_left
      ·show Act.put _ (some 7) _ = _
       simp only [Act.put,sa_,sb_,sc_,c_c,c_b]
       rfl
      exact b_I (by first|(simp only [b_m,Act.put,sa_,sb_,sc_];done)|(simp only [b_m,Act.put,sa_,sb_,sc_];rfl)) (h_D (v253,v256,a_0) _ ⟨hHeld,(rup_ b_J.out),(rup_ c_F.out),(bup_ a_D.out),(bup_ a_K.out),c_S.out,a_P.out,a_Y.out,a_3.out,(by repeat (first|(with_reducible first|exact HB.out|apply a_d|apply a_c|apply a_e|refine a_a ?_ a_L.out|refine a_a ?_ a_P.out)|exact HB.out))⟩)
     skip
     refine b_8 ?hg (N:=8) ?hd (cs:=#[.slice none 0 0]) (t:=24) ?hr ?_;(case hd => rfl);(case hg => rfl);(case hr => first|(go_simp;done)|(go_simp;rfl))
     intro a_X hg w15 hbox hb
     have a_I:=a_b.mk (hbox)
     have c_T:=a_b.mk ((by rw [hg];exact (a_i (by repeat (first|(with_reducible first|exact HB.out|apply a_d|apply a_c|apply a_e|refine a_a ?_ a_L.out)|exact HB.out))) : w.heap.size ≤ a_X))
     have a_Q:=a_b.mk ((by rw [hg];exact (a_i (by repeat (first|(with_reducible first|exact HB.out|apply a_d|apply a_c|apply a_e|refine a_a ?_ a_L.out)|exact HB.out))) : w.heap.size ≤ a_X))
     have a_Z:=a_b.mk ((by rw [hg];exact Nat.ne_of_lt (a_M (bup_ a_D.out)) : a_W ≠ a_X))
     have a_4:=a_b.mk ((by rw [hg];exact Nat.ne_of_gt (a_M (bup_ a_D.out)) : a_X ≠ a_W))
     replace b_J:=a_b.mk (Kd.a_B (rup_ b_J.out) hb)
     replace c_F:=a_b.mk (Kd.a_B (rup_ c_F.out) hb)
     replace a_D:=a_b.mk (a_h (bup_ a_D.out) hb)
     replace HB:=a_b.mk (a_l (by repeat (first|(with_reducible first|exact HB.out|apply a_d|apply a_c|apply a_e|refine a_a ?_ a_L.out)|exact HB.out)) hb)
     clear hb hbox hg
     refine hK.out _ _ ((a_k a_D.out 0).trans rfl) (fun hHeld => ?_)
     clear hK K
     refine b_I (a':=?_) ?_ ?_
     rotate_left
     ·show Act.put _ (some 8) _ = _
      simp only [Act.put,sa_,sb_,sc_,c_c,c_b]
      rfl
     exact b_I (by first|(simp only [b_m,Act.put,sa_,sb_,sc_];done)|(simp only [b_m,Act.put,sa_,sb_,sc_];rfl)) (h_E (v253,v256,a_X) _ ⟨hHeld,(rup_ b_J.out),(rup_ c_F.out),(bup_ a_D.out),(bup_ a_I.out),c_T.out,a_Q.out,a_Z.out,a_4.out,(by repeat (first|(with_reducible first|exact HB.out|apply a_d|apply a_c|apply a_e|refine a_a ?_ a_L.out|refine a_a ?_ a_Q.out)|exact HB.out))⟩)
    skip
    rintro ⟨v253,a_0,a_X⟩ w15 ⟨hS_,h0_,h1_,h2_,h3_,h4_,h5_,h6_,h7_,h8_,h9_,h10_,h11_,h12_,h13_,h14_⟩
    have b_J : a_b (Kd.R k56 56 w15 w.heap.size (fun _ => True) v253 t252):=⟨h0_⟩
    have a_K : a_b (w15.heap[a_0]? = some (.cells #[.slice none 0 0] 24 (0,0))):=⟨h2_⟩
    have a_I : a_b (w15.heap[a_X]? = some (.cells #[.slice none 0 0] 24 (0,0))):=⟨h3_⟩
    have c_S : a_b (w.heap.size ≤ a_0):=⟨h4_⟩
    have a_P : a_b (w.heap.size ≤ a_0):=⟨h5_⟩
    have a_Y : a_b (a_W ≠ a_0):=⟨h6_⟩
    have a_3 : a_b (a_0 ≠ a_W):=⟨h7_⟩
    have a_7 : a_b (a_X ≠ a_0):=⟨h8_⟩
    have a_6 : a_b (a_0 ≠ a_X):=⟨h9_⟩
    have c_T : a_b (w.heap.size ≤ a_X):=⟨h10_⟩
    have a_Q : a_b (w.heap.size ≤ a_X):=⟨h11_⟩
    have a_Z : a_b (a_W ≠ a_X):=⟨h12_⟩
    have a_4 : a_b (a_X ≠ a_W):=⟨h13_⟩
    replace a_D : a_b (w15.heap[a_W]? = some (.cells #[.slice A0_0 l0_0.length c0_0] 24 (0,0))):=⟨h1_⟩
    replace HB : a_b (Below w.heap.size w w15):=⟨h14_⟩
    clear h0_ h1_ h2_ h3_ h4_ h5_ h6_ h7_ h8_ h9_ h10_ h11_ h12_ h13_ h14_
    have hHeld : w15.cell? ⟨a_W,0,none⟩ = some (.slice A0_0 l0_0.length c0_0):=hS_
    refine b_I (a':=?_) ?_ ?_
    rotate_left
    ·simp only [b_m,Act.put,sa_,sb_,sc_]
     rfl
    refine one_ (i:=3) (N:=some 27) Z1_ rfl rfl (c_8 HT_.out (by kernel_rfl)) (by decide) (fun K hK => ?_)
    refine f_x Tryd.func11 (by kernel_rfl) rfl #[.agg #[.slice A0_0 l0_0.length c0_0]] (by rfl) rfl rfl (by (try simp only [List.map_toArray,List.map_cons,List.map_nil]);first|done|rfl|(simp only [List.length_drop,List.length_take];rfl)) ?_
    with_reducible refine (a_H.calls _ _ l0_0 t255 _ ?side1 ?side2 A7.out).mono ?_
    (case side1 => repeat (first|exact (Kd.b_d b_l.out HB.out)|(with_reducible refine Kd.a_N ?_ _)|(with_reducible refine Kd.a_O ?_ _)|(with_reducible refine Kd.a_8 ?_)))
    (case side2 => exact c_h.out)
    rintro e w16 ⟨v256,rfl,ho0,hb⟩
    refine ⟨_,rfl,?_⟩
    have c_F:=a_b.mk (Kd.b_o (Kd.e_g ho0 (Kd.R_lt (rup_ b_J.out))) (a_i (by repeat (first|(with_reducible first|exact HB.out|apply a_d|apply a_c|apply a_e|refine a_a ?_ a_L.out|refine a_a ?_ a_P.out|refine a_a ?_ a_Q.out)|exact HB.out))))
    replace b_J:=a_b.mk (Kd.d_a (rup_ b_J.out) (Kd.e_e ho0) hb)
    replace a_D:=a_b.mk (a_h (bup_ a_D.out) hb)
    replace a_K:=a_b.mk (a_h (bup_ a_K.out) hb)
    replace a_I:=a_b.mk (a_h (bup_ a_I.out) hb)
    replace HB:=a_b.mk (a_l (by repeat (first|(with_reducible first|exact HB.out|apply a_d|apply a_c|apply a_e|refine a_a ?_ a_L.out|refine a_a ?_ a_P.out|refine a_a ?_ a_Q.out)|exact HB.out)) hb)
    (try clear hb)
    (try clear hb2)
    (try clear hk)
    (try clear hi)
    (try clear ho0)
    refine hK.out _ _ ((a_k a_D.out 0).trans rfl) (fun hHeld => ?_)
    clear hK K
    refine b_I (a':=?_) ?_ ?_
    rotate_left
    ·show Act.put _ (some 27) _ = _
     simp only [Act.put,sa_,sb_,sc_,c_c,c_b]
     rfl
    exact b_I (by first|(simp only [b_m,Act.put,sa_,sb_,sc_];done)|(simp only [b_m,Act.put,sa_,sb_,sc_];rfl)) (e_l (v253,v256,a_0,a_X) _ ⟨hHeld,(by (with_reducible repeat (first|apply Kd.a_T|apply Kd.a_U|apply Kd.a_9));exact Kd.b_z b_J.out (fun _ hk => hk.2)),(by (with_reducible repeat (first|apply Kd.a_T|apply Kd.a_U|apply Kd.a_9));exact Kd.b_z c_F.out (fun _ hk => hk.2)),(bup_ a_D.out),(bup_ a_K.out),(bup_ a_I.out),c_S.out,a_P.out,a_Y.out,a_3.out,a_7.out,a_6.out,c_T.out,a_Q.out,a_Z.out,a_4.out,(by repeat (first|(with_reducible first|exact HB.out|apply a_d|apply a_c|apply a_e|refine a_a ?_ a_L.out|refine a_a ?_ a_P.out|refine a_a ?_ a_Q.out)|exact HB.out))⟩)
   skip
   rintro ⟨v253,v256,a_X⟩ w15 ⟨hS_,h0_,h1_,h2_,h3_,h4_,h5_,h6_,h7_,h8_⟩
   have b_J : a_b (Kd.R k56 56 w15 w.heap.size (fun k_ => some k_ ≠ (v256 : Value).ownBlock) v253 t252):=⟨h0_⟩
   have c_F : a_b (Kd.R k56 56 w15 w.heap.size (fun k_ => some k_ ≠ (v253 : Value).ownBlock) v256 t255):=⟨h1_⟩
   have a_I : a_b (w15.heap[a_X]? = some (.cells #[.slice none 0 0] 24 (0,0))):=⟨h3_⟩
   have c_T : a_b (w.heap.size ≤ a_X):=⟨h4_⟩
   have a_Q : a_b (w.heap.size ≤ a_X):=⟨h5_⟩
   have a_Z : a_b (a_W ≠ a_X):=⟨h6_⟩
   have a_4 : a_b (a_X ≠ a_W):=⟨h7_⟩
   replace a_D : a_b (w15.heap[a_W]? = some (.cells #[.slice A0_0 l0_0.length c0_0] 24 (0,0))):=⟨h2_⟩
   replace HB : a_b (Below w.heap.size w w15):=⟨h8_⟩
   clear h0_ h1_ h2_ h3_ h4_ h5_ h6_ h7_ h8_
   have hHeld : w15.cell? ⟨a_W,0,none⟩ = some (.slice A0_0 l0_0.length c0_0):=hS_
   refine b_I (a':=?_) ?_ ?_
   rotate_left
   ·simp only [b_m,Act.put,sa_,sb_,sc_]
    rfl
   refine one_ (i:=4) (N:=some 7) Z1_ rfl rfl (c_8 HT_.out (by kernel_rfl)) (by decide) (fun K hK => ?_)
   refine b_8 ?hg (N:=7) ?hd (cs:=#[.slice none 0 0]) (t:=24) ?hr ?_;(case hd => rfl);(case hg => rfl);(case hr => first|(go_simp;done)|(go_simp;rfl))
   intro a_0 hg w16 hbox hb
   have a_K:=a_b.mk (hbox)
   have c_S:=a_b.mk ((by rw [hg];exact (a_i (by repeat (first|(with_reducible first|exact HB.out|apply a_d|apply a_c|apply a_e|refine a_a ?_ a_L.out|refine a_a ?_ a_Q.out)|exact HB.out))) : w.heap.size ≤ a_0))
   have a_P:=a_b.mk ((by rw [hg];exact (a_i (by repeat (first|(with_reducible first|exact HB.out|apply a_d|apply a_c|apply a_e|refine a_a ?_ a_L.out|refine a_a ?_ a_Q.out)|exact HB.out))) : w.heap.size ≤ a_0))
   have a_Y:=a_b.mk ((by rw [hg];exact Nat.ne_of_lt (a_M (bup_ a_D.out)) : a_W ≠ a_0))
   have a_3:=a_b.mk ((by rw [hg];exact Nat.ne_of_gt (a_M (bup_ a_D.out)) : a_0 ≠ a_W))
   have a_7:=a_b.mk ((by rw [hg];exact Nat.ne_of_lt (a_M (bup_ a_I.out)) : a_X ≠ a_0))
   have a_6:=a_b.mk ((by rw [hg];exact Nat.ne_of_gt (a_M (bup_ a_I.out)) : a_0 ≠ a_X))
   replace b_J:=a_b.mk (Kd.a_B (rup_ b_J.out) hb)
   replace c_F:=a_b.mk (Kd.a_B (rup_ c_F.out) hb)
   replace a_D:=a_b.mk (a_h (bup_ a_D.out) hb)
   replace a_I:=a_b.mk (a_h (bup_ a_I.out) hb)
   replace HB:=a_b.mk (a_l (by repeat (first|(with_reducible first|exact HB.out|apply a_d|apply a_c|apply a_e|refine a_a ?_ a_L.out|refine a_a ?_ a_Q.out)|exact HB.out)) hb)
   clear hb hbox hg
   refine hK.out _ _ ((a_k a_D.out 0).trans rfl) (fun hHeld => ?_)
   clear hK K
   refine b_I (a':=?_) ?_ ?_
   rotate_left
   ·show Act.put _ (some 7) _ = _
    simp only [Act.put,sa_,sb_,sc_,c_c,c_b]
    rfl
   exact b_I (by first|(simp only [b_m,Act.put,sa_,sb_,sc_];done)|(simp only [b_m,Act.put,sa_,sb_,sc_];rfl)) (e_l (v253,v256,a_0,a_X) _ ⟨hHeld,(rup_ b_J.out),(rup_ c_F.out),(bup_ a_D.out),(bup_ a_K.out),(bup_ a_I.out),c_S.out,a_P.out,a_Y.out,a_3.out,a_7.out,a_6.out,c_T.out,a_Q.out,a_Z.out,a_4.out,(by repeat (first|(with_reducible first|exact HB.out|apply a_d|apply a_c|apply a_e|refine a_a ?_ a_L.out|refine a_a ?_ a_Q.out|refine a_a ?_ a_P.out)|exact HB.out))⟩)
  skip
  rintro ⟨v253,v256,a_0⟩ w15 ⟨hS_,h0_,h1_,h2_,h3_,h4_,h5_,h6_,h7_,h8_⟩
  have b_J : a_b (Kd.R k56 56 w15 w.heap.size (fun k_ => some k_ ≠ (v256 : Value).ownBlock) v253 t252):=⟨h0_⟩
  have c_F : a_b (Kd.R k56 56 w15 w.heap.size (fun k_ => some k_ ≠ (v253 : Value).ownBlock) v256 t255):=⟨h1_⟩
  have a_K : a_b (w15.heap[a_0]? = some (.cells #[.slice none 0 0] 24 (0,0))):=⟨h3_⟩
  have c_S : a_b (w.heap.size ≤ a_0):=⟨h4_⟩
  have a_P : a_b (w.heap.size ≤ a_0):=⟨h5_⟩
  have a_Y : a_b (a_W ≠ a_0):=⟨h6_⟩
  have a_3 : a_b (a_0 ≠ a_W):=⟨h7_⟩
  replace a_D : a_b (w15.heap[a_W]? = some (.cells #[.slice A0_0 l0_0.length c0_0] 24 (0,0))):=⟨h2_⟩
  replace HB : a_b (Below w.heap.size w w15):=⟨h8_⟩
  clear h0_ h1_ h2_ h3_ h4_ h5_ h6_ h7_ h8_
  have hHeld : w15.cell? ⟨a_W,0,none⟩ = some (.slice A0_0 l0_0.length c0_0):=hS_
  refine b_I (a':=?_) ?_ ?_
  rotate_left
  ·simp only [b_m,Act.put,sa_,sb_,sc_]
   rfl
  refine one_ (i:=5) (N:=some 8) Z1_ rfl rfl (c_8 HT_.out (by kernel_rfl)) (by decide) (fun K hK => ?_)
  refine b_8 ?hg (N:=8) ?hd (cs:=#[.slice none 0 0]) (t:=24) ?hr ?_;(case hd => rfl);(case hg => rfl);(case hr => first|(go_simp;done)|(go_simp;rfl))
  intro a_X hg w16 hbox hb
  have a_I:=a_b.mk (hbox)
  have c_T:=a_b.mk ((by rw [hg];exact (a_i (by repeat (first|(with_reducible first|exact HB.out|apply a_d|apply a_c|apply a_e|refine a_a ?_ a_L.out|refine a_a ?_ a_P.out)|exact HB.out))) : w.heap.size ≤ a_X))
  have a_Q:=a_b.mk ((by rw [hg];exact (a_i (by repeat (first|(with_reducible first|exact HB.out|apply a_d|apply a_c|apply a_e|refine a_a ?_ a_L.out|refine a_a ?_ a_P.out)|exact HB.out))) : w.heap.size ≤ a_X))
  have a_Z:=a_b.mk ((by rw [hg];exact Nat.ne_of_lt (a_M (bup_ a_D.out)) : a_W ≠ a_X))
  have a_4:=a_b.mk ((by rw [hg];exact Nat.ne_of_gt (a_M (bup_ a_D.out)) : a_X ≠ a_W))
  have a_6:=a_b.mk ((by rw [hg];exact Nat.ne_of_lt (a_M (bup_ a_K.out)) : a_0 ≠ a_X))
  have a_7:=a_b.mk ((by rw [hg];exact Nat.ne_of_gt (a_M (bup_ a_K.out)) : a_X ≠ a_0))
  replace b_J:=a_b.mk (Kd.a_B (rup_ b_J.out) hb)
  replace c_F:=a_b.mk (Kd.a_B (rup_ c_F.out) hb)
  replace a_D:=a_b.mk (a_h (bup_ a_D.out) hb)
  replace a_K:=a_b.mk (a_h (bup_ a_K.out) hb)
  replace HB:=a_b.mk (a_l (by repeat (first|(with_reducible first|exact HB.out|apply a_d|apply a_c|apply a_e|refine a_a ?_ a_L.out|refine a_a ?_ a_P.out)|exact HB.out)) hb)
  clear hb hbox hg
  refine hK.out _ _ ((a_k a_D.out 0).trans rfl) (fun hHeld => ?_)
  clear hK K
  refine b_I (a':=?_) ?_ ?_
  rotate_left
  ·show Act.put _ (some 8) _ = _
   simp only [Act.put,sa_,sb_,sc_,c_c,c_b]
   rfl
  exact b_I (by first|(simp only [b_m,Act.put,sa_,sb_,sc_];done)|(simp only [b_m,Act.put,sa_,sb_,sc_];rfl)) (e_l (v253,v256,a_0,a_X) _ ⟨hHeld,(rup_ b_J.out),(rup_ c_F.out),(bup_ a_D.out),(bup_ a_K.out),(bup_ a_I.out),c_S.out,a_P.out,a_Y.out,a_3.out,a_7.out,a_6.out,c_T.out,a_Q.out,a_Z.out,a_4.out,(by repeat (first|(with_reducible first|exact HB.out|apply a_d|apply a_c|apply a_e|refine a_a ?_ a_L.out|refine a_a ?_ a_P.out|refine a_a ?_ a_Q.out)|exact HB.out))⟩)
 rintro ⟨v253,v256,a_0,a_X⟩ w16 ⟨hS_,h0_,h1_,h2_,h3_,h4_,h5_,h6_,h7_,h8_,h9_,h10_,h11_,h12_,h13_,h14_,h15_⟩
 have b_J : a_b (Kd.R k56 56 w16 w.heap.size (fun k_ => some k_ ≠ (v256 : Value).ownBlock) v253 t252):=⟨h0_⟩
 have c_F : a_b (Kd.R k56 56 w16 w.heap.size (fun k_ => some k_ ≠ (v253 : Value).ownBlock) v256 t255):=⟨h1_⟩
 have a_K : a_b (w16.heap[a_0]? = some (.cells #[.slice none 0 0] 24 (0,0))):=⟨h3_⟩
 have a_I : a_b (w16.heap[a_X]? = some (.cells #[.slice none 0 0] 24 (0,0))):=⟨h4_⟩
 have c_S : a_b (w.heap.size ≤ a_0):=⟨h5_⟩
 have a_P : a_b (w.heap.size ≤ a_0):=⟨h6_⟩
 have a_Y : a_b (a_W ≠ a_0):=⟨h7_⟩
 have a_3 : a_b (a_0 ≠ a_W):=⟨h8_⟩
 have a_7 : a_b (a_X ≠ a_0):=⟨h9_⟩
 have a_6 : a_b (a_0 ≠ a_X):=⟨h10_⟩
 have c_T : a_b (w.heap.size ≤ a_X):=⟨h11_⟩
 have a_Q : a_b (w.heap.size ≤ a_X):=⟨h12_⟩
 have a_Z : a_b (a_W ≠ a_X):=⟨h13_⟩
 have a_4 : a_b (a_X ≠ a_W):=⟨h14_⟩
 replace a_D : a_b (w16.heap[a_W]? = some (.cells #[.slice A0_0 l0_0.length c0_0] 24 (0,0))):=⟨h2_⟩
 replace HB : a_b (Below w.heap.size w w16):=⟨h15_⟩
 clear h0_ h1_ h2_ h3_ h4_ h5_ h6_ h7_ h8_ h9_ h10_ h11_ h12_ h13_ h14_ h15_
 have hHeld : w16.cell? ⟨a_W,0,none⟩ = some (.slice A0_0 l0_0.length c0_0):=hS_
 obtain ⟨Ao17,co17,eo17⟩:=Kd.b_V b_J.out
 (first|subst eo17|(injection eo17 with f1_ f2_ f3_;have f4_:=f1_.symm;have f5_:=f3_.symm;clear f1_ f2_ f3_;subst f4_;subst f5_))
 obtain ⟨Ao19,co19,eo19⟩:=Kd.b_V c_F.out
 (first|subst eo19|(injection eo19 with f1_ f2_ f3_;have f4_:=f1_.symm;have f5_:=f3_.symm;clear f1_ f2_ f3_;subst f4_;subst f5_))
 refine b_I (a':=?_) ?_ ?_
 rotate_left
 ·simp only [b_m,Act.put,sa_,sb_,sc_]
  rfl
 refine one_ (i:=6) (N:=none) #[T_,T_,T_,T_,T_,T_,T_,F_] rfl rfl (c_8 HT_.out (by kernel_rfl)) (by decide) (fun K hK => ?_)
 have hs18 : w16.cell? ⟨a_0,0,none⟩ = some (.slice none 0 0):=(a_k a_K.out 0).trans rfl
 have hfs18:=a_g a_K.out 0
 have hns18_0:=a_Y.out
 have hns18_2:=a_7.out
 have hms18_0:=a_3.out
 have hms18_2:=a_6.out
 refine i_j (w1:=?_) (by rfl) rfl ?_ ?_
 rotate_left
 ·go_simp
  rfl
 refine hK.out _ _ (((cell_far (p:=⟨a_0,_,none⟩) a_Y.out _).trans (hHeld))) (fun hHeld => ?_)
 clear hK K
 refine one_ (i:=7) (N:=none) #[T_,T_,T_,T_,T_,T_,T_,T_] rfl rfl (c_8 HT_.out (by kernel_rfl)) (by decide) (fun K hK => ?_)
 have hs20 : w16.cell? ⟨a_X,0,none⟩ = some (.slice none 0 0):=(a_k a_I.out 0).trans rfl
 have hfs20:=a_g a_I.out 0
 have hns20_0:=a_Z.out
 have hns20_1:=a_6.out
 have hms20_0:=a_4.out
 have hms20_1:=a_7.out
 refine i_j (w1:=?_) (by rfl) rfl ?_ ?_
 rotate_left
 ·go_simp
  rfl
 refine hK.out _ _ (((cell_far (p:=⟨a_X,_,none⟩) a_Z.out _).trans (hHeld))) (fun hHeld => ?_)
 clear hK K
 refine j_g (f_O HT_.out (by kernel_rfl)) ?_
 have k_m:=a_4.out
 have k_n:=a_Z.out
 have j_E:=a_7.out
 have j_F:=a_6.out
 have d_m : w16.cell? ⟨a_X,0,none⟩ = some (.slice none 0 0):=(a_k a_I.out 0).trans rfl
 have d_p:=a_g a_I.out 0
 try go_wp2_with (first|((with_reducible refine a_y (f:=16) rfl ?_);refine a_5 (some 29) rfl rfl Tryd.func16 (by kernel_rfl) rfl #[.agg #[.slice Ao19 t255.length co19]] rfl (by (try simp only [List.map_toArray,List.map_cons,List.map_nil]);first|done|rfl|(simp only [List.length_drop,List.length_take];rfl)) ?_;(with_reducible refine (a_s.calls k _ _ t255 t260 _ ?side1 ?side2 A8.out).mono ?_);(case side1 => refine (Kd.a_z (e:=56) (base:=w.heap.size) (ok:=fun k_ => some k_ ≠ (.slice Ao17 t252.length co17 : Value).ownBlock) (n:=t255.length) (c:=co19) ?_).2.2;exact (by (with_reducible repeat (first|apply Kd.a_T|apply Kd.a_U|apply Kd.a_9));exact (Kd.b_z (Kd.b_z (Kd.c_i (p:=⟨a_X,0,none⟩) (Kd.c_i (p:=⟨a_0,0,none⟩) (Kd.b_B (Kd.b_B c_F.out a_K.out (by decide)) a_I.out (by decide)) (fun _ hk => hk.1.2) (.slice Ao17 t252.length co17)) (fun _ hk => hk.2) (.slice Ao19 t255.length co19)) (fun _ h_ => h_.1)) (fun _ h_ => h_.1))));(case side2 => exact (Kd.a_z c_F.out).2.1);rintro e w24 ⟨rfl,hb⟩;refine ⟨_,rfl,?_⟩;replace b_J:=a_b.mk (Kd.a_B (by (with_reducible repeat (first|apply Kd.a_T|apply Kd.a_U|apply Kd.a_9));exact (Kd.b_z (Kd.b_z (Kd.c_i (p:=⟨a_X,0,none⟩) (Kd.c_i (p:=⟨a_0,0,none⟩) (Kd.b_B (Kd.b_B b_J.out a_K.out (by decide)) a_I.out (by decide)) (fun _ hk => hk.1.2) (.slice Ao17 t252.length co17)) (fun _ hk => hk.2) (.slice Ao19 t255.length co19)) (fun _ h_ => h_.1)) (fun _ h_ => h_.1))) hb);replace c_F:=a_b.mk (Kd.a_B (by (with_reducible repeat (first|apply Kd.a_T|apply Kd.a_U|apply Kd.a_9));exact (Kd.b_z (Kd.b_z (Kd.c_i (p:=⟨a_X,0,none⟩) (Kd.c_i (p:=⟨a_0,0,none⟩) (Kd.b_B (Kd.b_B c_F.out a_K.out (by decide)) a_I.out (by decide)) (fun _ hk => hk.1.2) (.slice Ao17 t252.length co17)) (fun _ hk => hk.2) (.slice Ao19 t255.length co19)) (fun _ h_ => h_.1)) (fun _ h_ => h_.1))) hb);replace a_D:=a_b.mk (a_h (g:=a_W) (o:=.cells #[.slice A0_0 l0_0.length c0_0] 24 (0,0)) (by (with_reducible repeat (first|refine a_o ?_ _|refine a_q ?_|refine a_n ?_ _));refine b_u ?_ a_Z.out _;(with_reducible repeat (first|refine a_o ?_ _|refine a_q ?_|refine a_n ?_ _));refine b_u ?_ a_Y.out _;(with_reducible repeat (first|refine a_o ?_ _|refine a_q ?_|refine a_n ?_ _));exact a_D.out) hb);replace a_K:=a_b.mk (a_h (g:=a_0) (o:=.cells #[.slice Ao17 t252.length co17] 24 (0,0)) (by (with_reducible repeat (first|refine a_o ?_ _|refine a_q ?_|refine a_n ?_ _));refine b_u ?_ a_6.out _;(with_reducible repeat (first|refine a_o ?_ _|refine a_q ?_|refine a_n ?_ _));refine b_M (cs:=#[.slice none 0 0]) ?_ 0 _ rfl;(with_reducible repeat (first|refine a_o ?_ _|refine a_q ?_|refine a_n ?_ _));exact a_K.out) hb);replace a_I:=a_b.mk (a_h (g:=a_X) (o:=.cells #[.slice Ao19 t255.length co19] 24 (0,0)) (by (with_reducible repeat (first|refine a_o ?_ _|refine a_q ?_|refine a_n ?_ _));refine b_M (cs:=#[.slice none 0 0]) ?_ 0 _ rfl;(with_reducible repeat (first|refine a_o ?_ _|refine a_q ?_|refine a_n ?_ _));refine b_u ?_ a_7.out _;(with_reducible repeat (first|refine a_o ?_ _|refine a_q ?_|refine a_n ?_ _));exact a_I.out) hb);replace HB:=a_b.mk (a_l (by repeat (first|(with_reducible first|exact HB.out|apply a_d|apply a_c|apply a_e|refine a_a ?_ a_L.out|refine a_a ?_ a_P.out|refine a_a ?_ a_Q.out)|exact HB.out)) hb);(try clear hb);(try clear hb2);(try clear hk);(try clear hi)))
 go_loopg [32] k (fun kq v32 w' => ∃ (x32_1 : Int),v32 = .int .i64 x32_1 ∧ a_b (a_f.l0 kq l2 t260 l1 (l1.length : Int) x32_1 t252 t255 = some r) ∧ a_b (kq ≤ k) ∧ a_b (Kd.R k56 56 w' w.heap.size (fun k_ => some k_ ≠ ((.slice Ao19 t255.length co19) : Value).ownBlock) (.slice Ao17 t252.length co17) t252) ∧ a_b (Kd.R k56 56 w' w.heap.size (fun k_ => some k_ ≠ ((.slice Ao17 t252.length co17) : Value).ownBlock) (.slice Ao19 t255.length co19) t255) ∧ a_b (w'.heap[a_W]? = some (.cells #[(.slice A0_0 l0_0.length c0_0)] 24 (0,0))) ∧ a_b (w'.heap[a_0]? = some (.cells #[(.slice Ao17 t252.length co17)] 24 (0,0))) ∧ a_b (w'.heap[a_X]? = some (.cells #[(.slice Ao19 t255.length co19)] 24 (0,0))) ∧ a_b (Below w.heap.size w w'))
 case atStart => exact ⟨(0),(by first|rfl|(simp;done)|(simp [*];done)),H',⟨Nat.le_refl _⟩,⟨by (with_reducible repeat (first|apply Kd.a_T|apply Kd.a_U|apply Kd.a_9));exact b_J.out⟩,⟨by (with_reducible repeat (first|apply Kd.a_T|apply Kd.a_U|apply Kd.a_9));exact c_F.out⟩,⟨by (with_reducible repeat (first|refine a_o ?_ _|refine a_q ?_|refine a_n ?_ _));exact a_D.out⟩,⟨by (with_reducible repeat (first|refine a_o ?_ _|refine a_q ?_|refine a_n ?_ _));exact a_K.out⟩,⟨by (with_reducible repeat (first|refine a_o ?_ _|refine a_q ?_|refine a_n ?_ _));exact a_I.out⟩,⟨by repeat (first|(with_reducible first|exact HB.out|apply a_d|apply a_c|apply a_e|refine a_a ?_ a_L.out|refine a_a ?_ a_P.out|refine a_a ?_ a_Q.out)|exact HB.out)⟩⟩
 case round =>
  clear H'
  try clear c1
  try clear c2
  try clear p2
  try clear c11
  try clear c16
  try clear c21
  try clear c22
  try clear d_m
  try clear d_p
  obtain ⟨x32_1,rfl,HA,HK1,a_v,a_r,a_D,a_K,a_I,HB⟩:=hrel
  cases gk with
  | zero => exact absurd HA.out (by simp [a_f.l0])
  | succ k1 =>
   have H:=HA.out
   clear HA
   simp only [a_f.l0] at H
   by_cases c25 : x32_1 < (l1.length : Int)
   rotate_left
   ·rw [if_neg c25] at H
    have c25b0 : decide (x32_1 < (l1.length : Int)) = false:=decide_eq_false c25
    clear c25
    replace H:=Option.bind_eq_some_iff.mp H
    obtain ⟨t261,A2680,H⟩:=H
    replace H : (some t261) = some r:=H
    have A268:=a_b.mk A2680
    clear A2680
    obtain rfl:=Option.some.inj H
    have p_x:=a_3.out
    have q_I:=a_Y.out
    have p_y:=a_6.out
    have q_J:=a_7.out
    have l_L : wr.cell? ⟨a_0,0,none⟩ = some (.slice Ao17 t252.length co17):=(a_k a_K.out 0).trans rfl
    have m_X:=a_g a_K.out 0
    have p_z:=a_4.out
    have q_K:=a_Z.out
    have l_M : wr.cell? ⟨a_X,0,none⟩ = some (.slice Ao19 t255.length co19):=(a_k a_I.out 0).trans rfl
    have m_Y:=a_g a_I.out 0
    go_wp2_with (first|((with_reducible refine a_y (f:=24) rfl ?_);refine a_5 (some 126) rfl rfl Tryd.func24 (by kernel_rfl) rfl #[.agg #[.slice Ao17 t252.length co17],.agg #[.slice Ao19 t255.length co19]] rfl (by (try simp only [List.map_toArray,List.map_cons,List.map_nil]);first|done|rfl|(simp only [List.length_drop,List.length_take];rfl)) ?_;(with_reducible refine (a_w.calls k1 _ _ t252 _ _ t255 t261 _ ?side1 ?side2 ?side3 ?side4 A268.out).mono ?_);(case side1 => repeat (first|exact (Kd.a_z a_v.out).2.2|(with_reducible refine Kd.a_N ?_ _)|(with_reducible refine Kd.a_O ?_ _)|(with_reducible refine Kd.a_8 ?_)));(case side2 => exact (Kd.a_z a_v.out).2.1);(case side3 => repeat (first|exact (Kd.a_z a_r.out).2.2|(with_reducible refine Kd.a_N ?_ _)|(with_reducible refine Kd.a_O ?_ _)|(with_reducible refine Kd.a_8 ?_)));(case side4 => exact (Kd.a_z a_r.out).2.1);rintro e w274 ⟨rfl,hb⟩;refine ⟨_,rfl,?_⟩;replace a_v:=a_b.mk (Kd.a_B (rup_ a_v.out) hb);replace a_r:=a_b.mk (Kd.a_B (rup_ a_r.out) hb);replace a_D:=a_b.mk (a_h (bup_ a_D.out) hb);replace a_K:=a_b.mk (a_h (bup_ a_K.out) hb);replace a_I:=a_b.mk (a_h (bup_ a_I.out) hb);replace HB:=a_b.mk (a_l (by repeat (first|(with_reducible first|exact HB.out|apply a_d|apply a_c|apply a_e|refine a_a ?_ a_L.out|refine a_a ?_ a_P.out|refine a_a ?_ a_Q.out)|exact HB.out)) hb);(try clear hb);(try clear hb2);(try clear hk);(try clear hi)))
    go_ret
    exact ⟨by first|rfl|(simp [a_t,a_u] <;> rfl)|(simp [*, a_t,a_u] <;> rfl),by repeat (first|(with_reducible first|exact HB.out|apply a_d|apply a_c|apply a_e|refine a_a ?_ a_L.out|refine a_a ?_ a_P.out|refine a_a ?_ a_Q.out)|exact HB.out)⟩
   rw [if_pos c25] at H
   have c25b0 : decide (x32_1 < (l1.length : Int)) = true:=decide_eq_true c25
   clear c25
   by_cases c26 : 0 ≤ x32_1
   rotate_left
   ·rw [if_neg c26] at H
    exact absurd H (by simp)
   rw [if_pos c26] at H
   have c26b0 : decide (0 ≤ x32_1) = true:=decide_eq_true c26
   clear c26
   by_cases c27 : x32_1 < (l1.length : Int)
   rotate_left
   ·rw [if_neg c27] at H
    exact absurd H (by simp)
   rw [if_pos c27] at H
   have c27b0 : decide (x32_1 < (l1.length : Int)) = true:=decide_eq_true c27
   clear c27
   by_cases c28 : x32_1 = 12
   ·rw [if_pos c28] at H
    have c28b0 : (x32_1 == 12) = true:=beq_iff_eq.mpr c28
    have c28b1 : (x32_1 != 12) = false:=bne_eq_false_iff_eq.mpr c28
    clear c28
    replace H:=Option.bind_eq_some_iff.mp H
    obtain ⟨t264,A290,H⟩:=H
    replace H : (some t264) = some r:=H
    have A29:=a_b.mk A290
    clear A290
    obtain rfl:=Option.some.inj H
    have p262 : 0 ≤ (x32_1 : Int):=of_decide_eq_true (by first|(with_reducible assumption)|assumption)
    have q262 : x32_1 < (l1.length : Int):=of_decide_eq_true (by first|(with_reducible assumption)|assumption)
    obtain ⟨ad262,e262,c_4,c_5⟩:=i_T HR1.out x32_1 p262 q262
    cases e262
    replace c_4:=(HB.out.cell (World.block_lt_of_cell? w _ c_4)).trans c_4
    replace c_5:=(HB.out.cell (World.block_lt_of_cell? w _ c_5)).trans c_5
    replace p262:=eq_true p262
    replace q262:=eq_true q262
    go_wp2_with (first|((with_reducible refine a_J (N:=11) rfl ?_);refine a_F ?hg (N:=11) ?hd (cs:=#[.int .i64 0,.int .i64 0]) (t:=39) ?hr ?_;(case hd => rfl);(case hg => rfl);(case hr => first|(go_simp;done)|(go_simp;rfl));intro b_b hg w30 hbox hb;have a_E:=a_b.mk (hbox);have m_3:=a_b.mk ((by rw [hg];exact (a_i (by repeat (first|(with_reducible first|exact HB.out|apply a_d|apply a_c|apply a_e|refine a_a ?_ a_L.out|refine a_a ?_ a_P.out|refine a_a ?_ a_Q.out)|exact HB.out))) : w.heap.size ≤ b_b));have b_n:=a_b.mk ((by rw [hg];exact (a_i (by repeat (first|(with_reducible first|exact HB.out|apply a_d|apply a_c|apply a_e|refine a_a ?_ a_L.out|refine a_a ?_ a_P.out|refine a_a ?_ a_Q.out)|exact HB.out))) : w.heap.size ≤ b_b));have b_w:=a_b.mk ((by rw [hg];exact Nat.ne_of_lt (a_M (bup_ a_D.out)) : a_W ≠ b_b));have b_N:=a_b.mk ((by rw [hg];exact Nat.ne_of_gt (a_M (bup_ a_D.out)) : b_b ≠ a_W));have b_x:=a_b.mk ((by rw [hg];exact Nat.ne_of_lt (a_M (bup_ a_K.out)) : a_0 ≠ b_b));have b_O:=a_b.mk ((by rw [hg];exact Nat.ne_of_gt (a_M (bup_ a_K.out)) : b_b ≠ a_0));have b_y:=a_b.mk ((by rw [hg];exact Nat.ne_of_lt (a_M (bup_ a_I.out)) : a_X ≠ b_b));have b_P:=a_b.mk ((by rw [hg];exact Nat.ne_of_gt (a_M (bup_ a_I.out)) : b_b ≠ a_X));replace a_v:=a_b.mk (Kd.a_B (rup_ a_v.out) hb);replace a_r:=a_b.mk (Kd.a_B (rup_ a_r.out) hb);replace a_D:=a_b.mk (a_h (bup_ a_D.out) hb);replace a_K:=a_b.mk (a_h (bup_ a_K.out) hb);replace a_I:=a_b.mk (a_h (bup_ a_I.out) hb);replace HB:=a_b.mk (a_l (by repeat (first|(with_reducible first|exact HB.out|apply a_d|apply a_c|apply a_e|refine a_a ?_ a_L.out|refine a_a ?_ a_P.out|refine a_a ?_ a_Q.out)|exact HB.out)) hb);clear hb hbox hg;have n_9:=b_N.out;have o_f:=b_w.out;have o_a:=b_O.out;have o_g:=b_x.out;have r_q:=b_P.out;have r_Z:=b_y.out;have f_U : w30.cell? ⟨b_b,0,none⟩ = some (.int .i64 0):=(a_k a_E.out 0).trans rfl;have f_V : w30.cell? ⟨b_b,1,none⟩ = some (.int .i64 0):=(a_k a_E.out 1).trans rfl;have g_i:=a_g a_E.out 0;have g_j:=a_g a_E.out 1;have r_s:=a_3.out;have r_1:=a_Y.out;have r_t:=a_6.out;have r_2:=a_7.out;have f_W : w30.cell? ⟨a_0,0,none⟩ = some (.slice Ao17 t252.length co17):=(a_k a_K.out 0).trans rfl;have g_k:=a_g a_K.out 0;have o_b:=a_4.out;have o_h:=a_Z.out;have e_6 : w30.cell? ⟨a_X,0,none⟩ = some (.slice Ao19 t255.length co19):=(a_k a_I.out 0).trans rfl;have f_b:=a_g a_I.out 0)|((with_reducible refine a_y (f:=24) rfl ?_);refine a_5 (some 126) rfl rfl Tryd.func24 (by kernel_rfl) rfl #[.agg #[.slice Ao17 t252.length co17],.agg #[.slice Ao19 t255.length co19]] rfl (by (try simp only [List.map_toArray,List.map_cons,List.map_nil]);first|done|rfl|(simp only [List.length_drop,List.length_take];rfl)) ?_;(with_reducible refine (a_w.calls k1 _ _ t252 _ _ t255 t264 _ ?side1 ?side2 ?side3 ?side4 A29.out).mono ?_);(case side1 => refine (Kd.a_z (e:=56) (base:=w.heap.size) (ok:=fun k_ => some k_ ≠ (.slice Ao19 t255.length co19 : Value).ownBlock) (n:=t252.length) (c:=co17) ?_).2.2;exact (by (with_reducible repeat (first|apply Kd.a_T|apply Kd.a_U|apply Kd.a_9));exact (Kd.b_z (Kd.c_i (p:=⟨b_b,1,none⟩) (Kd.c_i (p:=⟨b_b,0,none⟩) (Kd.b_B a_v.out a_E.out (by decide)) (fun _ hk => hk.2) (.int .i64 ((a_p l1 x32_1).f0))) (fun _ hk => hk.2) (.int .i64 ((a_p l1 x32_1).f1))) (fun _ h_ => h_.1))));(case side2 => exact (Kd.a_z a_v.out).2.1);(case side3 => refine (Kd.a_z (e:=56) (base:=w.heap.size) (ok:=fun k_ => some k_ ≠ (.slice Ao17 t252.length co17 : Value).ownBlock) (n:=t255.length) (c:=co19) ?_).2.2;exact (by (with_reducible repeat (first|apply Kd.a_T|apply Kd.a_U|apply Kd.a_9));exact (Kd.b_z (Kd.c_i (p:=⟨b_b,1,none⟩) (Kd.c_i (p:=⟨b_b,0,none⟩) (Kd.b_B a_r.out a_E.out (by decide)) (fun _ hk => hk.2) (.int .i64 ((a_p l1 x32_1).f0))) (fun _ hk => hk.2) (.int .i64 ((a_p l1 x32_1).f1))) (fun _ h_ => h_.1))));(case side4 => exact (Kd.a_z a_r.out).2.1);rintro e w40 ⟨rfl,hb⟩;refine ⟨_,rfl,?_⟩;replace a_v:=a_b.mk (Kd.a_B (by (with_reducible repeat (first|apply Kd.a_T|apply Kd.a_U|apply Kd.a_9));exact (Kd.b_z (Kd.c_i (p:=⟨b_b,1,none⟩) (Kd.c_i (p:=⟨b_b,0,none⟩) (Kd.b_B a_v.out a_E.out (by decide)) (fun _ hk => hk.2) (.int .i64 ((a_p l1 x32_1).f0))) (fun _ hk => hk.2) (.int .i64 ((a_p l1 x32_1).f1))) (fun _ h_ => h_.1))) hb);replace a_r:=a_b.mk (Kd.a_B (by (with_reducible repeat (first|apply Kd.a_T|apply Kd.a_U|apply Kd.a_9));exact (Kd.b_z (Kd.c_i (p:=⟨b_b,1,none⟩) (Kd.c_i (p:=⟨b_b,0,none⟩) (Kd.b_B a_r.out a_E.out (by decide)) (fun _ hk => hk.2) (.int .i64 ((a_p l1 x32_1).f0))) (fun _ hk => hk.2) (.int .i64 ((a_p l1 x32_1).f1))) (fun _ h_ => h_.1))) hb);replace a_D:=a_b.mk (a_h (g:=a_W) (o:=.cells #[.slice A0_0 l0_0.length c0_0] 24 (0,0)) (by (with_reducible repeat (first|refine a_o ?_ _|refine a_q ?_|refine a_n ?_ _));refine b_u ?_ b_w.out _;(with_reducible repeat (first|refine a_o ?_ _|refine a_q ?_|refine a_n ?_ _));refine b_u ?_ b_w.out _;(with_reducible repeat (first|refine a_o ?_ _|refine a_q ?_|refine a_n ?_ _));exact a_D.out) hb);replace a_K:=a_b.mk (a_h (g:=a_0) (o:=.cells #[.slice Ao17 t252.length co17] 24 (0,0)) (by (with_reducible repeat (first|refine a_o ?_ _|refine a_q ?_|refine a_n ?_ _));refine b_u ?_ b_x.out _;(with_reducible repeat (first|refine a_o ?_ _|refine a_q ?_|refine a_n ?_ _));refine b_u ?_ b_x.out _;(with_reducible repeat (first|refine a_o ?_ _|refine a_q ?_|refine a_n ?_ _));exact a_K.out) hb);replace a_I:=a_b.mk (a_h (g:=a_X) (o:=.cells #[.slice Ao19 t255.length co19] 24 (0,0)) (by (with_reducible repeat (first|refine a_o ?_ _|refine a_q ?_|refine a_n ?_ _));refine b_u ?_ b_y.out _;(with_reducible repeat (first|refine a_o ?_ _|refine a_q ?_|refine a_n ?_ _));refine b_u ?_ b_y.out _;(with_reducible repeat (first|refine a_o ?_ _|refine a_q ?_|refine a_n ?_ _));exact a_I.out) hb);replace a_E:=a_b.mk (a_h (g:=b_b) (o:=.cells #[.int .i64 ((a_p l1 x32_1).f0),.int .i64 ((a_p l1 x32_1).f1)] 39 (0,0)) (by (with_reducible repeat (first|refine a_o ?_ _|refine a_q ?_|refine a_n ?_ _));refine b_M (cs:=#[.int .i64 ((a_p l1 x32_1).f0),.int .i64 0]) ?_ 1 _ rfl;(with_reducible repeat (first|refine a_o ?_ _|refine a_q ?_|refine a_n ?_ _));refine b_M (cs:=#[.int .i64 0,.int .i64 0]) ?_ 0 _ rfl;(with_reducible repeat (first|refine a_o ?_ _|refine a_q ?_|refine a_n ?_ _));exact a_E.out) hb);replace HB:=a_b.mk (a_l (by repeat (first|(with_reducible first|exact HB.out|apply a_d|apply a_c|apply a_e|refine a_a ?_ a_L.out|refine a_a ?_ a_P.out|refine a_a ?_ a_Q.out|refine a_a ?_ b_n.out)|exact HB.out)) hb);(try clear hb);(try clear hb2);(try clear hk);(try clear hi)))
    go_ret
    exact ⟨by first|rfl|(simp [a_t,a_u] <;> rfl)|(simp [*, a_t,a_u] <;> rfl),by repeat (first|(with_reducible first|exact HB.out|apply a_d|apply a_c|apply a_e|refine a_a ?_ a_L.out|refine a_a ?_ a_P.out|refine a_a ?_ a_Q.out|refine a_a ?_ b_n.out)|exact HB.out)⟩
   rw [if_neg c28] at H
   have c28b0 : (x32_1 == 12) = false:=beq_eq_false_iff_ne.mpr c28
   have c28b1 : (x32_1 != 12) = true:=bne_iff_ne.mpr c28
   replace H:=Option.bind_eq_some_iff.mp H
   obtain ⟨⟨t265,t266⟩,A410,H⟩:=H
   replace H : (if t260 = true then ((a_C.f t255 ((a_p l1 x32_1).f0)).bind fun t267 => (if t267 = true then ((a_C.f t255 ((a_p l1 x32_1).f1)).bind fun t268 => (if t268 = true then ((a_S.f t255 ((a_p l1 x32_1).f0) ((a_p l1 x32_1).f1)).bind fun t269 => (a_f.j1 k1 l2 t260 t265 t266 0 t269 l1 (l1.length : Int) x32_1 t252 t255 ((a_p l1 x32_1).f0) ((a_p l1 x32_1).f1))) else (a_f.j1 k1 l2 t260 t265 t266 2 0 l1 (l1.length : Int) x32_1 t252 t255 ((a_p l1 x32_1).f0) ((a_p l1 x32_1).f1)))) else (a_f.j1 k1 l2 t260 t265 t266 2 0 l1 (l1.length : Int) x32_1 t252 t255 ((a_p l1 x32_1).f0) ((a_p l1 x32_1).f1)))) else (a_f.j1 k1 l2 t260 t265 t266 160 0 l1 (l1.length : Int) x32_1 t252 t255 ((a_p l1 x32_1).f0) ((a_p l1 x32_1).f1))) = some r:=H
   have A41:=a_b.mk A410
   clear A410
   have HC42:=a_b.mk H
   clear H
   have p262 : 0 ≤ (x32_1 : Int):=of_decide_eq_true (by first|(with_reducible assumption)|assumption)
   have q262 : x32_1 < (l1.length : Int):=of_decide_eq_true (by first|(with_reducible assumption)|assumption)
   obtain ⟨ad262,e262,c_4,c_5⟩:=i_T HR1.out x32_1 p262 q262
   cases e262
   replace c_4:=(HB.out.cell (World.block_lt_of_cell? w _ c_4)).trans c_4
   replace c_5:=(HB.out.cell (World.block_lt_of_cell? w _ c_5)).trans c_5
   replace p262:=eq_true p262
   replace q262:=eq_true q262
   go_upto_block 2 with (first|((with_reducible refine a_J (N:=11) rfl ?_);refine a_F ?hg (N:=11) ?hd (cs:=#[.int .i64 0,.int .i64 0]) (t:=39) ?hr ?_;(case hd => rfl);(case hg => rfl);(case hr => first|(go_simp;done)|(go_simp;rfl));intro b_b hg w43 hbox hb;have a_E:=a_b.mk (hbox);have m_3:=a_b.mk ((by rw [hg];exact (a_i (by repeat (first|(with_reducible first|exact HB.out|apply a_d|apply a_c|apply a_e|refine a_a ?_ a_L.out|refine a_a ?_ a_P.out|refine a_a ?_ a_Q.out)|exact HB.out))) : w.heap.size ≤ b_b));have b_n:=a_b.mk ((by rw [hg];exact (a_i (by repeat (first|(with_reducible first|exact HB.out|apply a_d|apply a_c|apply a_e|refine a_a ?_ a_L.out|refine a_a ?_ a_P.out|refine a_a ?_ a_Q.out)|exact HB.out))) : w.heap.size ≤ b_b));have b_w:=a_b.mk ((by rw [hg];exact Nat.ne_of_lt (a_M (bup_ a_D.out)) : a_W ≠ b_b));have b_N:=a_b.mk ((by rw [hg];exact Nat.ne_of_gt (a_M (bup_ a_D.out)) : b_b ≠ a_W));have b_x:=a_b.mk ((by rw [hg];exact Nat.ne_of_lt (a_M (bup_ a_K.out)) : a_0 ≠ b_b));have b_O:=a_b.mk ((by rw [hg];exact Nat.ne_of_gt (a_M (bup_ a_K.out)) : b_b ≠ a_0));have b_y:=a_b.mk ((by rw [hg];exact Nat.ne_of_lt (a_M (bup_ a_I.out)) : a_X ≠ b_b));have b_P:=a_b.mk ((by rw [hg];exact Nat.ne_of_gt (a_M (bup_ a_I.out)) : b_b ≠ a_X));replace a_v:=a_b.mk (Kd.a_B (rup_ a_v.out) hb);replace a_r:=a_b.mk (Kd.a_B (rup_ a_r.out) hb);replace a_D:=a_b.mk (a_h (bup_ a_D.out) hb);replace a_K:=a_b.mk (a_h (bup_ a_K.out) hb);replace a_I:=a_b.mk (a_h (bup_ a_I.out) hb);replace HB:=a_b.mk (a_l (by repeat (first|(with_reducible first|exact HB.out|apply a_d|apply a_c|apply a_e|refine a_a ?_ a_L.out|refine a_a ?_ a_P.out|refine a_a ?_ a_Q.out)|exact HB.out)) hb);clear hb hbox hg;have r_y:=b_N.out;have r_7:=b_w.out;have o_c:=b_O.out;have o_i:=b_x.out;have r_z:=b_P.out;have r_8:=b_y.out;have f_X : w43.cell? ⟨b_b,0,none⟩ = some (.int .i64 0):=(a_k a_E.out 0).trans rfl;have f_Y : w43.cell? ⟨b_b,1,none⟩ = some (.int .i64 0):=(a_k a_E.out 1).trans rfl;have g_l:=a_g a_E.out 0;have g_m:=a_g a_E.out 1;have r_A:=a_3.out;have r_9:=a_Y.out;have r_B:=a_6.out;have s_a:=a_7.out;have e_7 : w43.cell? ⟨a_0,0,none⟩ = some (.slice Ao17 t252.length co17):=(a_k a_K.out 0).trans rfl;have f_c:=a_g a_K.out 0)|((with_reducible refine a_y (f:=17) rfl ?_);refine a_5 (some 45) rfl rfl Tryd.func17 (by kernel_rfl) rfl #[.agg #[.slice Ao17 t252.length co17],.int .i64 ((a_p l1 x32_1).f0),.int .i64 ((a_p l1 x32_1).f1)] rfl (by (try simp only [List.map_toArray,List.map_cons,List.map_nil]);first|done|rfl|(simp only [List.length_drop,List.length_take];rfl)) ?_;(with_reducible refine (b_c.calls k1 _ _ t252 ((a_p l1 x32_1).f0) ((a_p l1 x32_1).f1) t265 t266 _ ?side1 ?side2 A41.out).mono ?_);(case side1 => refine (Kd.a_z (e:=56) (base:=w.heap.size) (ok:=fun k_ => some k_ ≠ (.slice Ao19 t255.length co19 : Value).ownBlock) (n:=t252.length) (c:=co17) ?_).2.2;exact (by (with_reducible repeat (first|apply Kd.a_T|apply Kd.a_U|apply Kd.a_9));exact (Kd.b_z (Kd.c_i (p:=⟨b_b,1,none⟩) (Kd.c_i (p:=⟨b_b,0,none⟩) (Kd.b_B a_v.out a_E.out (by decide)) (fun _ hk => hk.2) (.int .i64 ((a_p l1 x32_1).f0))) (fun _ hk => hk.2) (.int .i64 ((a_p l1 x32_1).f1))) (fun _ h_ => h_.1))));(case side2 => exact (Kd.a_z a_v.out).2.1);rintro e w51 ⟨rfl,hb⟩;refine ⟨_,rfl,?_⟩;replace a_v:=a_b.mk (Kd.a_B (by (with_reducible repeat (first|apply Kd.a_T|apply Kd.a_U|apply Kd.a_9));exact (Kd.b_z (Kd.c_i (p:=⟨b_b,1,none⟩) (Kd.c_i (p:=⟨b_b,0,none⟩) (Kd.b_B a_v.out a_E.out (by decide)) (fun _ hk => hk.2) (.int .i64 ((a_p l1 x32_1).f0))) (fun _ hk => hk.2) (.int .i64 ((a_p l1 x32_1).f1))) (fun _ h_ => h_.1))) hb);replace a_r:=a_b.mk (Kd.a_B (by (with_reducible repeat (first|apply Kd.a_T|apply Kd.a_U|apply Kd.a_9));exact (Kd.b_z (Kd.c_i (p:=⟨b_b,1,none⟩) (Kd.c_i (p:=⟨b_b,0,none⟩) (Kd.b_B a_r.out a_E.out (by decide)) (fun _ hk => hk.2) (.int .i64 ((a_p l1 x32_1).f0))) (fun _ hk => hk.2) (.int .i64 ((a_p l1 x32_1).f1))) (fun _ h_ => h_.1))) hb);replace a_D:=a_b.mk (a_h (g:=a_W) (o:=.cells #[.slice A0_0 l0_0.length c0_0] 24 (0,0)) (by (with_reducible repeat (first|refine a_o ?_ _|refine a_q ?_|refine a_n ?_ _));refine b_u ?_ b_w.out _;(with_reducible repeat (first|refine a_o ?_ _|refine a_q ?_|refine a_n ?_ _));refine b_u ?_ b_w.out _;(with_reducible repeat (first|refine a_o ?_ _|refine a_q ?_|refine a_n ?_ _));exact a_D.out) hb);replace a_K:=a_b.mk (a_h (g:=a_0) (o:=.cells #[.slice Ao17 t252.length co17] 24 (0,0)) (by (with_reducible repeat (first|refine a_o ?_ _|refine a_q ?_|refine a_n ?_ _));refine b_u ?_ b_x.out _;(with_reducible repeat (first|refine a_o ?_ _|refine a_q ?_|refine a_n ?_ _));refine b_u ?_ b_x.out _;(with_reducible repeat (first|refine a_o ?_ _|refine a_q ?_|refine a_n ?_ _));exact a_K.out) hb);replace a_I:=a_b.mk (a_h (g:=a_X) (o:=.cells #[.slice Ao19 t255.length co19] 24 (0,0)) (by (with_reducible repeat (first|refine a_o ?_ _|refine a_q ?_|refine a_n ?_ _));refine b_u ?_ b_y.out _;(with_reducible repeat (first|refine a_o ?_ _|refine a_q ?_|refine a_n ?_ _));refine b_u ?_ b_y.out _;(with_reducible repeat (first|refine a_o ?_ _|refine a_q ?_|refine a_n ?_ _));exact a_I.out) hb);replace a_E:=a_b.mk (a_h (g:=b_b) (o:=.cells #[.int .i64 ((a_p l1 x32_1).f0),.int .i64 ((a_p l1 x32_1).f1)] 39 (0,0)) (by (with_reducible repeat (first|refine a_o ?_ _|refine a_q ?_|refine a_n ?_ _));refine b_M (cs:=#[.int .i64 ((a_p l1 x32_1).f0),.int .i64 0]) ?_ 1 _ rfl;(with_reducible repeat (first|refine a_o ?_ _|refine a_q ?_|refine a_n ?_ _));refine b_M (cs:=#[.int .i64 0,.int .i64 0]) ?_ 0 _ rfl;(with_reducible repeat (first|refine a_o ?_ _|refine a_q ?_|refine a_n ?_ _));exact a_E.out) hb);replace HB:=a_b.mk (a_l (by repeat (first|(with_reducible first|exact HB.out|apply a_d|apply a_c|apply a_e|refine a_a ?_ a_L.out|refine a_a ?_ a_P.out|refine a_a ?_ a_Q.out|refine a_a ?_ b_n.out)|exact HB.out)) hb);(try clear hb);(try clear hb2);(try clear hk);(try clear hi)))
   (try simp only [Act.put,sa_,sb_,sc_])
   go_cut [14,15] (fun v14 v15 wc => ∃ (kq : Nat) (x14_41 : Int) (x15_41 : Int),v14 = .int .i64 x14_41 ∧ v15 = .int .i64 x15_41 ∧ a_b (a_f.j1 kq l2 t260 t265 t266 x14_41 x15_41 l1 (l1.length : Int) x32_1 t252 t255 ((a_p l1 x32_1).f0) ((a_p l1 x32_1).f1) = some r) ∧ a_b (kq ≤ k1) ∧ a_b (Kd.R k56 56 wc w.heap.size (fun k_ => some k_ ≠ ((.slice Ao19 t255.length co19) : Value).ownBlock) (.slice Ao17 t252.length co17) t252) ∧ a_b (Kd.R k56 56 wc w.heap.size (fun k_ => some k_ ≠ ((.slice Ao17 t252.length co17) : Value).ownBlock) (.slice Ao19 t255.length co19) t255) ∧ a_b (wc.heap[a_W]? = some (.cells #[(.slice A0_0 l0_0.length c0_0)] 24 (0,0))) ∧ a_b (wc.heap[a_0]? = some (.cells #[(.slice Ao17 t252.length co17)] 24 (0,0))) ∧ a_b (wc.heap[a_X]? = some (.cells #[(.slice Ao19 t255.length co19)] 24 (0,0))) ∧ a_b (wc.heap[b_b]? = some (.cells #[.int .i64 ((a_p l1 x32_1).f0),.int .i64 ((a_p l1 x32_1).f1)] 39 (0,0))) ∧ a_b (Below w.heap.size w wc))
   case first =>
    have H:=HC42.out
    clear HC42
    by_cases c52 : t260 = true
    rotate_left
    ·replace c52:=Bool.eq_false_iff.mpr c52
     subst c52
     have H1 : (a_f.j1 k1 l2 false t265 t266 160 0 l1 (l1.length : Int) x32_1 t252 t255 ((a_p l1 x32_1).f0) ((a_p l1 x32_1).f1)) = some r:=by rw [if_neg (show ¬ (false = true) by decide)] at H;exact H
     clear H
     have H:=H1
     clear H1
     have H':=a_b.mk H
     clear H
     go_wp2
     go_meet
     case rel => exact ⟨_,(160),(0),(by first|rfl|(simp;done)|(simp [*];done)),(by first|rfl|(simp;done)|(simp [*];done)),H',⟨by have:=HK1.out;first|omega|exact Nat.le_refl _⟩,⟨by (with_reducible repeat (first|apply Kd.a_T|apply Kd.a_U|apply Kd.a_9));exact a_v.out⟩,⟨by (with_reducible repeat (first|apply Kd.a_T|apply Kd.a_U|apply Kd.a_9));exact a_r.out⟩,⟨by (with_reducible repeat (first|refine a_o ?_ _|refine a_q ?_|refine a_n ?_ _));exact a_D.out⟩,⟨by (with_reducible repeat (first|refine a_o ?_ _|refine a_q ?_|refine a_n ?_ _));exact a_K.out⟩,⟨by (with_reducible repeat (first|refine a_o ?_ _|refine a_q ?_|refine a_n ?_ _));exact a_I.out⟩,⟨by (with_reducible repeat (first|refine a_o ?_ _|refine a_q ?_|refine a_n ?_ _));exact a_E.out⟩,⟨by repeat (first|(with_reducible first|exact HB.out|apply a_d|apply a_c|apply a_e|refine a_a ?_ a_L.out|refine a_a ?_ a_P.out|refine a_a ?_ a_Q.out|refine a_a ?_ b_n.out)|exact HB.out)⟩⟩
    subst c52
    have H1 : ((a_C.f t255 ((a_p l1 x32_1).f0)).bind fun t267 => (if t267 = true then ((a_C.f t255 ((a_p l1 x32_1).f1)).bind fun t268 => (if t268 = true then ((a_S.f t255 ((a_p l1 x32_1).f0) ((a_p l1 x32_1).f1)).bind fun t269 => (a_f.j1 k1 l2 true t265 t266 0 t269 l1 (l1.length : Int) x32_1 t252 t255 ((a_p l1 x32_1).f0) ((a_p l1 x32_1).f1))) else (a_f.j1 k1 l2 true t265 t266 2 0 l1 (l1.length : Int) x32_1 t252 t255 ((a_p l1 x32_1).f0) ((a_p l1 x32_1).f1)))) else (a_f.j1 k1 l2 true t265 t266 2 0 l1 (l1.length : Int) x32_1 t252 t255 ((a_p l1 x32_1).f0) ((a_p l1 x32_1).f1)))) = some r:=by rw [if_pos rfl] at H;exact H
    clear H
    have H:=H1
    clear H1
    replace H:=Option.bind_eq_some_iff.mp H
    obtain ⟨t267,A530,H⟩:=H
    replace H : (if t267 = true then ((a_C.f t255 ((a_p l1 x32_1).f1)).bind fun t268 => (if t268 = true then ((a_S.f t255 ((a_p l1 x32_1).f0) ((a_p l1 x32_1).f1)).bind fun t269 => (a_f.j1 k1 l2 true t265 t266 0 t269 l1 (l1.length : Int) x32_1 t252 t255 ((a_p l1 x32_1).f0) ((a_p l1 x32_1).f1))) else (a_f.j1 k1 l2 true t265 t266 2 0 l1 (l1.length : Int) x32_1 t252 t255 ((a_p l1 x32_1).f0) ((a_p l1 x32_1).f1)))) else (a_f.j1 k1 l2 true t265 t266 2 0 l1 (l1.length : Int) x32_1 t252 t255 ((a_p l1 x32_1).f0) ((a_p l1 x32_1).f1))) = some r:=H
    have A53:=a_b.mk A530
    clear A530
    by_cases c54 : t267 = true
    rotate_left
    ·replace c54:=Bool.eq_false_iff.mpr c54
     subst c54
     have H1 : (a_f.j1 k1 l2 true t265 t266 2 0 l1 (l1.length : Int) x32_1 t252 t255 ((a_p l1 x32_1).f0) ((a_p l1 x32_1).f1)) = some r:=by rw [if_neg (show ¬ (false = true) by decide)] at H;exact H
     clear H
     have H:=H1
     clear H1
     have H':=a_b.mk H
     clear H
     have r_M:=a_4.out
     have s_m:=a_Z.out
     have r_N:=a_7.out
     have s_n:=a_6.out
     have r_O:=b_y.out
     have s_o:=b_P.out
     have g_d : w51.cell? ⟨a_X,0,none⟩ = some (.slice Ao19 t255.length co19):=(a_k a_I.out 0).trans rfl
     have g_B:=a_g a_I.out 0
     have r_P:=b_N.out
     have s_p:=b_w.out
     have r_Q:=b_O.out
     have s_q:=b_x.out
     have g_e : w51.cell? ⟨b_b,0,none⟩ = some (.int .i64 ((a_p l1 x32_1).f0)):=(a_k a_E.out 0).trans rfl
     have g_f : w51.cell? ⟨b_b,1,none⟩ = some (.int .i64 ((a_p l1 x32_1).f1)):=(a_k a_E.out 1).trans rfl
     have g_C:=a_g a_E.out 0
     have g_D:=a_g a_E.out 1
     go_wp2_with (first|((with_reducible refine a_y (f:=18) rfl ?_);refine a_5 (some 61) rfl rfl Tryd.func18 (by kernel_rfl) rfl #[.agg #[.slice Ao19 t255.length co19],.int .i64 ((a_p l1 x32_1).f0)] rfl (by (try simp only [List.map_toArray,List.map_cons,List.map_nil]);first|done|rfl|(simp only [List.length_drop,List.length_take];rfl)) ?_;(with_reducible refine (a_C.calls _ _ t255 ((a_p l1 x32_1).f0) false _ ?side1 ?side2 A53.out).mono ?_);(case side1 => repeat (first|exact (Kd.a_z a_r.out).2.2|(with_reducible refine Kd.a_N ?_ _)|(with_reducible refine Kd.a_O ?_ _)|(with_reducible refine Kd.a_8 ?_)));(case side2 => exact (Kd.a_z a_r.out).2.1);rintro e w90 ⟨rfl,hb⟩;refine ⟨_,rfl,?_⟩;replace a_v:=a_b.mk (Kd.a_B (rup_ a_v.out) hb);replace a_r:=a_b.mk (Kd.a_B (rup_ a_r.out) hb);replace a_D:=a_b.mk (a_h (bup_ a_D.out) hb);replace a_K:=a_b.mk (a_h (bup_ a_K.out) hb);replace a_I:=a_b.mk (a_h (bup_ a_I.out) hb);replace a_E:=a_b.mk (a_h (bup_ a_E.out) hb);replace HB:=a_b.mk (a_l (by repeat (first|(with_reducible first|exact HB.out|apply a_d|apply a_c|apply a_e|refine a_a ?_ a_L.out|refine a_a ?_ a_P.out|refine a_a ?_ a_Q.out|refine a_a ?_ b_n.out)|exact HB.out)) hb);(try clear hb);(try clear hb2);(try clear hk);(try clear hi)))
     go_meet
     case rel => exact ⟨_,(2),(0),(by first|rfl|(simp;done)|(simp [*];done)),(by first|rfl|(simp;done)|(simp [*];done)),H',⟨by have:=HK1.out;first|omega|exact Nat.le_refl _⟩,⟨by (with_reducible repeat (first|apply Kd.a_T|apply Kd.a_U|apply Kd.a_9));exact a_v.out⟩,⟨by (with_reducible repeat (first|apply Kd.a_T|apply Kd.a_U|apply Kd.a_9));exact a_r.out⟩,⟨by (with_reducible repeat (first|refine a_o ?_ _|refine a_q ?_|refine a_n ?_ _));exact a_D.out⟩,⟨by (with_reducible repeat (first|refine a_o ?_ _|refine a_q ?_|refine a_n ?_ _));exact a_K.out⟩,⟨by (with_reducible repeat (first|refine a_o ?_ _|refine a_q ?_|refine a_n ?_ _));exact a_I.out⟩,⟨by (with_reducible repeat (first|refine a_o ?_ _|refine a_q ?_|refine a_n ?_ _));exact a_E.out⟩,⟨by repeat (first|(with_reducible first|exact HB.out|apply a_d|apply a_c|apply a_e|refine a_a ?_ a_L.out|refine a_a ?_ a_P.out|refine a_a ?_ a_Q.out|refine a_a ?_ b_n.out)|exact HB.out)⟩⟩
    subst c54
    have H1 : ((a_C.f t255 ((a_p l1 x32_1).f1)).bind fun t268 => (if t268 = true then ((a_S.f t255 ((a_p l1 x32_1).f0) ((a_p l1 x32_1).f1)).bind fun t269 => (a_f.j1 k1 l2 true t265 t266 0 t269 l1 (l1.length : Int) x32_1 t252 t255 ((a_p l1 x32_1).f0) ((a_p l1 x32_1).f1))) else (a_f.j1 k1 l2 true t265 t266 2 0 l1 (l1.length : Int) x32_1 t252 t255 ((a_p l1 x32_1).f0) ((a_p l1 x32_1).f1)))) = some r:=by rw [if_pos rfl] at H;exact H
    clear H
    have H:=H1
    clear H1
    replace H:=Option.bind_eq_some_iff.mp H
    obtain ⟨t268,A550,H⟩:=H
    replace H : (if t268 = true then ((a_S.f t255 ((a_p l1 x32_1).f0) ((a_p l1 x32_1).f1)).bind fun t269 => (a_f.j1 k1 l2 true t265 t266 0 t269 l1 (l1.length : Int) x32_1 t252 t255 ((a_p l1 x32_1).f0) ((a_p l1 x32_1).f1))) else (a_f.j1 k1 l2 true t265 t266 2 0 l1 (l1.length : Int) x32_1 t252 t255 ((a_p l1 x32_1).f0) ((a_p l1 x32_1).f1))) = some r:=H
    have A55:=a_b.mk A550
    clear A550
    by_cases c56 : t268 = true
    rotate_left
    ·replace c56:=Bool.eq_false_iff.mpr c56
     subst c56
     have H1 : (a_f.j1 k1 l2 true t265 t266 2 0 l1 (l1.length : Int) x32_1 t252 t255 ((a_p l1 x32_1).f0) ((a_p l1 x32_1).f1)) = some r:=by rw [if_neg (show ¬ (false = true) by decide)] at H;exact H
     clear H
     have H:=H1
     clear H1
     have H':=a_b.mk H
     clear H
     have r_H:=a_4.out
     have s_h:=a_Z.out
     have r_I:=a_7.out
     have s_i:=a_6.out
     have r_J:=b_y.out
     have s_j:=b_P.out
     have f_7 : w51.cell? ⟨a_X,0,none⟩ = some (.slice Ao19 t255.length co19):=(a_k a_I.out 0).trans rfl
     have g_v:=a_g a_I.out 0
     have r_K:=b_N.out
     have s_k:=b_w.out
     have r_L:=b_O.out
     have s_l:=b_x.out
     have f_8 : w51.cell? ⟨b_b,0,none⟩ = some (.int .i64 ((a_p l1 x32_1).f0)):=(a_k a_E.out 0).trans rfl
     have f_9 : w51.cell? ⟨b_b,1,none⟩ = some (.int .i64 ((a_p l1 x32_1).f1)):=(a_k a_E.out 1).trans rfl
     have g_w:=a_g a_E.out 0
     have g_x:=a_g a_E.out 1
     go_wp2_with (first|((with_reducible refine a_y (f:=18) rfl ?_);refine a_5 (some 61) rfl rfl Tryd.func18 (by kernel_rfl) rfl #[.agg #[.slice Ao19 t255.length co19],.int .i64 ((a_p l1 x32_1).f0)] rfl (by (try simp only [List.map_toArray,List.map_cons,List.map_nil]);first|done|rfl|(simp only [List.length_drop,List.length_take];rfl)) ?_;(with_reducible refine (a_C.calls _ _ t255 ((a_p l1 x32_1).f0) true _ ?side1 ?side2 A53.out).mono ?_);(case side1 => repeat (first|exact (Kd.a_z a_r.out).2.2|(with_reducible refine Kd.a_N ?_ _)|(with_reducible refine Kd.a_O ?_ _)|(with_reducible refine Kd.a_8 ?_)));(case side2 => exact (Kd.a_z a_r.out).2.1);rintro e w79 ⟨rfl,hb⟩;refine ⟨_,rfl,?_⟩;replace a_v:=a_b.mk (Kd.a_B (rup_ a_v.out) hb);replace a_r:=a_b.mk (Kd.a_B (rup_ a_r.out) hb);replace a_D:=a_b.mk (a_h (bup_ a_D.out) hb);replace a_K:=a_b.mk (a_h (bup_ a_K.out) hb);replace a_I:=a_b.mk (a_h (bup_ a_I.out) hb);replace a_E:=a_b.mk (a_h (bup_ a_E.out) hb);replace HB:=a_b.mk (a_l (by repeat (first|(with_reducible first|exact HB.out|apply a_d|apply a_c|apply a_e|refine a_a ?_ a_L.out|refine a_a ?_ a_P.out|refine a_a ?_ a_Q.out|refine a_a ?_ b_n.out)|exact HB.out)) hb);(try clear hb);(try clear hb2);(try clear hk);(try clear hi);have g_a : w79.cell? ⟨a_X,0,none⟩ = some (.slice Ao19 t255.length co19):=(a_k a_I.out 0).trans rfl;have g_y:=a_g a_I.out 0;have g_b : w79.cell? ⟨b_b,0,none⟩ = some (.int .i64 ((a_p l1 x32_1).f0)):=(a_k a_E.out 0).trans rfl;have g_c : w79.cell? ⟨b_b,1,none⟩ = some (.int .i64 ((a_p l1 x32_1).f1)):=(a_k a_E.out 1).trans rfl;have g_z:=a_g a_E.out 0;have g_A:=a_g a_E.out 1)|(go_at_call 18;(with_reducible refine (a_C.calls _ _ t255 ((a_p l1 x32_1).f1) false _ ?side1 ?side2 A55.out).mono ?_);(case side1 => repeat (first|exact (Kd.a_z a_r.out).2.2|(with_reducible refine Kd.a_N ?_ _)|(with_reducible refine Kd.a_O ?_ _)|(with_reducible refine Kd.a_8 ?_)));(case side2 => exact (Kd.a_z a_r.out).2.1);rintro e w82 ⟨rfl,hb⟩;replace a_v:=a_b.mk (Kd.a_B (rup_ a_v.out) hb);replace a_r:=a_b.mk (Kd.a_B (rup_ a_r.out) hb);replace a_D:=a_b.mk (a_h (bup_ a_D.out) hb);replace a_K:=a_b.mk (a_h (bup_ a_K.out) hb);replace a_I:=a_b.mk (a_h (bup_ a_I.out) hb);replace a_E:=a_b.mk (a_h (bup_ a_E.out) hb);replace HB:=a_b.mk (a_l (by repeat (first|(with_reducible first|exact HB.out|apply a_d|apply a_c|apply a_e|refine a_a ?_ a_L.out|refine a_a ?_ a_P.out|refine a_a ?_ a_Q.out|refine a_a ?_ b_n.out)|exact HB.out)) hb);(try clear hb);(try clear hb2);(try clear hk);(try clear hi)))
     go_meet
     case rel => exact ⟨_,(2),(0),(by first|rfl|(simp;done)|(simp [*];done)),(by first|rfl|(simp;done)|(simp [*];done)),H',⟨by have:=HK1.out;first|omega|exact Nat.le_refl _⟩,⟨by (with_reducible repeat (first|apply Kd.a_T|apply Kd.a_U|apply Kd.a_9));exact a_v.out⟩,⟨by (with_reducible repeat (first|apply Kd.a_T|apply Kd.a_U|apply Kd.a_9));exact a_r.out⟩,⟨by (with_reducible repeat (first|refine a_o ?_ _|refine a_q ?_|refine a_n ?_ _));exact a_D.out⟩,⟨by (with_reducible repeat (first|refine a_o ?_ _|refine a_q ?_|refine a_n ?_ _));exact a_K.out⟩,⟨by (with_reducible repeat (first|refine a_o ?_ _|refine a_q ?_|refine a_n ?_ _));exact a_I.out⟩,⟨by (with_reducible repeat (first|refine a_o ?_ _|refine a_q ?_|refine a_n ?_ _));exact a_E.out⟩,⟨by repeat (first|(with_reducible first|exact HB.out|apply a_d|apply a_c|apply a_e|refine a_a ?_ a_L.out|refine a_a ?_ a_P.out|refine a_a ?_ a_Q.out|refine a_a ?_ b_n.out)|exact HB.out)⟩⟩
    subst c56
    have H1 : ((a_S.f t255 ((a_p l1 x32_1).f0) ((a_p l1 x32_1).f1)).bind fun t269 => (a_f.j1 k1 l2 true t265 t266 0 t269 l1 (l1.length : Int) x32_1 t252 t255 ((a_p l1 x32_1).f0) ((a_p l1 x32_1).f1))) = some r:=by rw [if_pos rfl] at H;exact H
    clear H
    have H:=H1
    clear H1
    replace H:=Option.bind_eq_some_iff.mp H
    obtain ⟨t269,A570,H⟩:=H
    replace H : (a_f.j1 k1 l2 true t265 t266 0 t269 l1 (l1.length : Int) x32_1 t252 t255 ((a_p l1 x32_1).f0) ((a_p l1 x32_1).f1)) = some r:=H
    have A57:=a_b.mk A570
    clear A570
    have H':=a_b.mk H
    clear H
    have r_C:=a_4.out
    have s_b:=a_Z.out
    have r_D:=a_7.out
    have s_d:=a_6.out
    have r_E:=b_y.out
    have s_e:=b_P.out
    have f_Z : w51.cell? ⟨a_X,0,none⟩ = some (.slice Ao19 t255.length co19):=(a_k a_I.out 0).trans rfl
    have g_n:=a_g a_I.out 0
    have r_F:=b_N.out
    have s_f:=b_w.out
    have r_G:=b_O.out
    have s_g:=b_x.out
    have e_8 : w51.cell? ⟨b_b,0,none⟩ = some (.int .i64 ((a_p l1 x32_1).f0)):=(a_k a_E.out 0).trans rfl
    have f_0 : w51.cell? ⟨b_b,1,none⟩ = some (.int .i64 ((a_p l1 x32_1).f1)):=(a_k a_E.out 1).trans rfl
    have f_d:=a_g a_E.out 0
    have g_o:=a_g a_E.out 1
    go_wp2_with (first|((with_reducible refine a_y (f:=18) rfl ?_);refine a_5 (some 61) rfl rfl Tryd.func18 (by kernel_rfl) rfl #[.agg #[.slice Ao19 t255.length co19],.int .i64 ((a_p l1 x32_1).f0)] rfl (by (try simp only [List.map_toArray,List.map_cons,List.map_nil]);first|done|rfl|(simp only [List.length_drop,List.length_take];rfl)) ?_;(with_reducible refine (a_C.calls _ _ t255 ((a_p l1 x32_1).f0) true _ ?side1 ?side2 A53.out).mono ?_);(case side1 => repeat (first|exact (Kd.a_z a_r.out).2.2|(with_reducible refine Kd.a_N ?_ _)|(with_reducible refine Kd.a_O ?_ _)|(with_reducible refine Kd.a_8 ?_)));(case side2 => exact (Kd.a_z a_r.out).2.1);rintro e w65 ⟨rfl,hb⟩;refine ⟨_,rfl,?_⟩;replace a_v:=a_b.mk (Kd.a_B (rup_ a_v.out) hb);replace a_r:=a_b.mk (Kd.a_B (rup_ a_r.out) hb);replace a_D:=a_b.mk (a_h (bup_ a_D.out) hb);replace a_K:=a_b.mk (a_h (bup_ a_K.out) hb);replace a_I:=a_b.mk (a_h (bup_ a_I.out) hb);replace a_E:=a_b.mk (a_h (bup_ a_E.out) hb);replace HB:=a_b.mk (a_l (by repeat (first|(with_reducible first|exact HB.out|apply a_d|apply a_c|apply a_e|refine a_a ?_ a_L.out|refine a_a ?_ a_P.out|refine a_a ?_ a_Q.out|refine a_a ?_ b_n.out)|exact HB.out)) hb);(try clear hb);(try clear hb2);(try clear hk);(try clear hi);have f_1 : w65.cell? ⟨a_X,0,none⟩ = some (.slice Ao19 t255.length co19):=(a_k a_I.out 0).trans rfl;have g_p:=a_g a_I.out 0;have f_2 : w65.cell? ⟨b_b,0,none⟩ = some (.int .i64 ((a_p l1 x32_1).f0)):=(a_k a_E.out 0).trans rfl;have f_3 : w65.cell? ⟨b_b,1,none⟩ = some (.int .i64 ((a_p l1 x32_1).f1)):=(a_k a_E.out 1).trans rfl;have g_q:=a_g a_E.out 0;have g_r:=a_g a_E.out 1)|(go_at_call 18;(with_reducible refine (a_C.calls _ _ t255 ((a_p l1 x32_1).f1) true _ ?side1 ?side2 A55.out).mono ?_);(case side1 => repeat (first|exact (Kd.a_z a_r.out).2.2|(with_reducible refine Kd.a_N ?_ _)|(with_reducible refine Kd.a_O ?_ _)|(with_reducible refine Kd.a_8 ?_)));(case side2 => exact (Kd.a_z a_r.out).2.1);rintro e w68 ⟨rfl,hb⟩;replace a_v:=a_b.mk (Kd.a_B (rup_ a_v.out) hb);replace a_r:=a_b.mk (Kd.a_B (rup_ a_r.out) hb);replace a_D:=a_b.mk (a_h (bup_ a_D.out) hb);replace a_K:=a_b.mk (a_h (bup_ a_K.out) hb);replace a_I:=a_b.mk (a_h (bup_ a_I.out) hb);replace a_E:=a_b.mk (a_h (bup_ a_E.out) hb);replace HB:=a_b.mk (a_l (by repeat (first|(with_reducible first|exact HB.out|apply a_d|apply a_c|apply a_e|refine a_a ?_ a_L.out|refine a_a ?_ a_P.out|refine a_a ?_ a_Q.out|refine a_a ?_ b_n.out)|exact HB.out)) hb);(try clear hb);(try clear hb2);(try clear hk);(try clear hi);have f_4 : w68.cell? ⟨a_X,0,none⟩ = some (.slice Ao19 t255.length co19):=(a_k a_I.out 0).trans rfl;have g_s:=a_g a_I.out 0;have f_5 : w68.cell? ⟨b_b,0,none⟩ = some (.int .i64 ((a_p l1 x32_1).f0)):=(a_k a_E.out 0).trans rfl;have f_6 : w68.cell? ⟨b_b,1,none⟩ = some (.int .i64 ((a_p l1 x32_1).f1)):=(a_k a_E.out 1).trans rfl;have g_t:=a_g a_E.out 0;have g_u:=a_g a_E.out 1)|((with_reducible refine a_y (f:=19) rfl ?_);refine a_5 (some 53) rfl rfl Tryd.func19 (by kernel_rfl) rfl #[.agg #[.slice Ao19 t255.length co19],.int .i64 ((a_p l1 x32_1).f0),.int .i64 ((a_p l1 x32_1).f1)] rfl (by (try simp only [List.map_toArray,List.map_cons,List.map_nil]);first|done|rfl|(simp only [List.length_drop,List.length_take];rfl)) ?_;(with_reducible refine (a_S.calls _ _ t255 ((a_p l1 x32_1).f0) ((a_p l1 x32_1).f1) t269 _ ?side1 ?side2 A57.out).mono ?_);(case side1 => repeat (first|exact (Kd.a_z a_r.out).2.2|(with_reducible refine Kd.a_N ?_ _)|(with_reducible refine Kd.a_O ?_ _)|(with_reducible refine Kd.a_8 ?_)));(case side2 => exact (Kd.a_z a_r.out).2.1);rintro e w71 ⟨rfl,hb⟩;refine ⟨_,rfl,?_⟩;replace a_v:=a_b.mk (Kd.a_B (rup_ a_v.out) hb);replace a_r:=a_b.mk (Kd.a_B (rup_ a_r.out) hb);replace a_D:=a_b.mk (a_h (bup_ a_D.out) hb);replace a_K:=a_b.mk (a_h (bup_ a_K.out) hb);replace a_I:=a_b.mk (a_h (bup_ a_I.out) hb);replace a_E:=a_b.mk (a_h (bup_ a_E.out) hb);replace HB:=a_b.mk (a_l (by repeat (first|(with_reducible first|exact HB.out|apply a_d|apply a_c|apply a_e|refine a_a ?_ a_L.out|refine a_a ?_ a_P.out|refine a_a ?_ a_Q.out|refine a_a ?_ b_n.out)|exact HB.out)) hb);(try clear hb);(try clear hb2);(try clear hk);(try clear hi)))
    go_meet
    case rel => exact ⟨_,(0),(t269),(by first|rfl|(simp;done)|(simp [*];done)),(by first|rfl|(simp;done)|(simp [*];done)),H',⟨by have:=HK1.out;first|omega|exact Nat.le_refl _⟩,⟨by (with_reducible repeat (first|apply Kd.a_T|apply Kd.a_U|apply Kd.a_9));exact a_v.out⟩,⟨by (with_reducible repeat (first|apply Kd.a_T|apply Kd.a_U|apply Kd.a_9));exact a_r.out⟩,⟨by (with_reducible repeat (first|refine a_o ?_ _|refine a_q ?_|refine a_n ?_ _));exact a_D.out⟩,⟨by (with_reducible repeat (first|refine a_o ?_ _|refine a_q ?_|refine a_n ?_ _));exact a_K.out⟩,⟨by (with_reducible repeat (first|refine a_o ?_ _|refine a_q ?_|refine a_n ?_ _));exact a_I.out⟩,⟨by (with_reducible repeat (first|refine a_o ?_ _|refine a_q ?_|refine a_n ?_ _));exact a_E.out⟩,⟨by repeat (first|(with_reducible first|exact HB.out|apply a_d|apply a_c|apply a_e|refine a_a ?_ a_L.out|refine a_a ?_ a_P.out|refine a_a ?_ a_Q.out|refine a_a ?_ b_n.out)|exact HB.out)⟩⟩
   case rest =>
    clear HC42
    try clear c1
    try clear c2
    try clear p2
    try clear q2
    try clear hx2
    try clear c3
    try clear c4
    try clear c5
    try clear c6
    try clear c7
    try clear c8
    try clear c11
    try clear c16
    try clear c17
    try clear c18
    try clear c19
    try clear c21
    try clear c22
    try clear c24
    try clear c25
    try clear c25b0
    try clear c26
    try clear c26b0
    try clear p26
    try clear q26
    try clear hx26
    try clear c27
    try clear c27b0
    try clear c28
    try clear c28b0
    try clear c28b1
    try clear c31
    try clear c32
    try clear c33
    try clear c35
    try clear c36
    try clear c38
    try clear c44
    try clear c45
    try clear c46
    try clear c48
    try clear c49
    try clear c52
    try clear c54
    try clear c56
    try clear c58
    try clear c59
    try clear c60
    try clear c62
    try clear c63
    try clear c72
    try clear c73
    try clear c74
    try clear c76
    try clear c77
    try clear c83
    try clear c84
    try clear c85
    try clear c87
    try clear c88
    try clear d_m
    try clear f_U
    try clear f_V
    try clear f_W
    try clear e_6
    try clear f_X
    try clear f_Y
    try clear e_7
    try clear f_Z
    try clear e_8
    try clear f_0
    try clear f_1
    try clear f_2
    try clear f_3
    try clear f_4
    try clear f_5
    try clear f_6
    try clear f_7
    try clear f_8
    try clear f_9
    try clear g_a
    try clear g_b
    try clear g_c
    try clear g_d
    try clear g_e
    try clear g_f
    try clear d_p
    try clear g_i
    try clear g_j
    try clear g_k
    try clear f_b
    try clear g_l
    try clear g_m
    try clear f_c
    try clear g_n
    try clear f_d
    try clear g_o
    try clear g_p
    try clear g_q
    try clear g_r
    try clear g_s
    try clear g_t
    try clear g_u
    try clear g_v
    try clear g_w
    try clear g_x
    try clear g_y
    try clear g_z
    try clear g_A
    try clear g_B
    try clear g_C
    try clear g_D
    try clear c_4
    try clear c_5
    try clear p2
    try clear p262
    try clear q262
    obtain ⟨kq,x14_41,x15_41,rfl,rfl,HA,HJ41,a_v,a_r,a_D,a_K,a_I,a_E,HB⟩:=hcut
    cases kq with
    | zero => exact absurd HA.out (by simp [a_f.j1])
    | succ kj41 =>
     have H:=HA.out
     clear HA
     simp only [a_f.j1] at H
     have HC91:=a_b.mk H
     clear H
     go_upto_region 16 with (fail)
     go_cut [77] (fun v77 wc => ∃ (kq : Nat) (x77_90 : Bool),v77 = .bool x77_90 ∧ a_b (a_f.j2 kq l2 t260 l1 (l1.length : Int) x32_1 x77_90 t252 t255 ((a_p l1 x32_1).f0) ((a_p l1 x32_1).f1) = some r) ∧ a_b (kq ≤ kj41) ∧ a_b (Kd.R k56 56 wc w.heap.size (fun k_ => some k_ ≠ ((.slice Ao19 t255.length co19) : Value).ownBlock) (.slice Ao17 t252.length co17) t252) ∧ a_b (Kd.R k56 56 wc w.heap.size (fun k_ => some k_ ≠ ((.slice Ao17 t252.length co17) : Value).ownBlock) (.slice Ao19 t255.length co19) t255) ∧ a_b (wc.heap[a_W]? = some (.cells #[(.slice A0_0 l0_0.length c0_0)] 24 (0,0))) ∧ a_b (wc.heap[a_0]? = some (.cells #[(.slice Ao17 t252.length co17)] 24 (0,0))) ∧ a_b (wc.heap[a_X]? = some (.cells #[(.slice Ao19 t255.length co19)] 24 (0,0))) ∧ a_b (wc.heap[b_b]? = some (.cells #[.int .i64 ((a_p l1 x32_1).f0),.int .i64 ((a_p l1 x32_1).f1)] 39 (0,0))) ∧ a_b (Below w.heap.size w wc))
     case first =>
      have H:=HC91.out
      clear HC91
      by_cases c92 : t266 = x14_41
      ·rw [if_pos c92] at H
       have c92b0 : (t266 == x14_41) = true:=beq_iff_eq.mpr c92
       have c92b1 : (t266 != x14_41) = false:=bne_eq_false_iff_eq.mpr c92
       clear c92
       (first|rw [c92b0]|(simp only [c_c,c_b];rw [c92b0])|skip)
       have H':=a_b.mk H
       clear H
       go_wp2
       go_meet
       case rel => exact ⟨_,((t265 != x15_41)),(by first|rfl|(simp;done)|(simp [*];done)),H',⟨by have:=HK1.out;have:=HJ41.out;first|omega|exact Nat.le_refl _⟩,⟨by (with_reducible repeat (first|apply Kd.a_T|apply Kd.a_U|apply Kd.a_9));exact a_v.out⟩,⟨by (with_reducible repeat (first|apply Kd.a_T|apply Kd.a_U|apply Kd.a_9));exact a_r.out⟩,⟨by (with_reducible repeat (first|refine a_o ?_ _|refine a_q ?_|refine a_n ?_ _));exact a_D.out⟩,⟨by (with_reducible repeat (first|refine a_o ?_ _|refine a_q ?_|refine a_n ?_ _));exact a_K.out⟩,⟨by (with_reducible repeat (first|refine a_o ?_ _|refine a_q ?_|refine a_n ?_ _));exact a_I.out⟩,⟨by (with_reducible repeat (first|refine a_o ?_ _|refine a_q ?_|refine a_n ?_ _));exact a_E.out⟩,⟨by repeat (first|(with_reducible first|exact HB.out|apply a_d|apply a_c|apply a_e|refine a_a ?_ a_L.out|refine a_a ?_ a_P.out|refine a_a ?_ a_Q.out|refine a_a ?_ b_n.out)|exact HB.out)⟩⟩
      rw [if_neg c92] at H
      have c92b0 : (t266 == x14_41) = false:=beq_eq_false_iff_ne.mpr c92
      have c92b1 : (t266 != x14_41) = true:=bne_iff_ne.mpr c92
      (first|rw [c92b0]|(simp only [c_c,c_b];rw [c92b0])|skip)
      have H':=a_b.mk H
      clear H
      go_wp2
      go_meet
      case rel => exact ⟨_,(true),(by first|rfl|(simp;done)|(simp [*];done)),H',⟨by have:=HK1.out;have:=HJ41.out;first|omega|exact Nat.le_refl _⟩,⟨by (with_reducible repeat (first|apply Kd.a_T|apply Kd.a_U|apply Kd.a_9));exact a_v.out⟩,⟨by (with_reducible repeat (first|apply Kd.a_T|apply Kd.a_U|apply Kd.a_9));exact a_r.out⟩,⟨by (with_reducible repeat (first|refine a_o ?_ _|refine a_q ?_|refine a_n ?_ _));exact a_D.out⟩,⟨by (with_reducible repeat (first|refine a_o ?_ _|refine a_q ?_|refine a_n ?_ _));exact a_K.out⟩,⟨by (with_reducible repeat (first|refine a_o ?_ _|refine a_q ?_|refine a_n ?_ _));exact a_I.out⟩,⟨by (with_reducible repeat (first|refine a_o ?_ _|refine a_q ?_|refine a_n ?_ _));exact a_E.out⟩,⟨by repeat (first|(with_reducible first|exact HB.out|apply a_d|apply a_c|apply a_e|refine a_a ?_ a_L.out|refine a_a ?_ a_P.out|refine a_a ?_ a_Q.out|refine a_a ?_ b_n.out)|exact HB.out)⟩⟩
     case rest =>
      clear HC91
      try clear c1
      try clear c2
      try clear p2
      try clear q2
      try clear hx2
      try clear c3
      try clear c4
      try clear c5
      try clear c6
      try clear c7
      try clear c8
      try clear c9
      try clear c11
      try clear c16
      try clear c17
      try clear c18
      try clear c19
      try clear c21
      try clear c22
      try clear c24
      try clear c25
      try clear c25b0
      try clear c26
      try clear c26b0
      try clear p26
      try clear q26
      try clear hx26
      try clear c27
      try clear c27b0
      try clear c28
      try clear c28b0
      try clear c28b1
      try clear c31
      try clear c32
      try clear c33
      try clear c35
      try clear c36
      try clear c38
      try clear c44
      try clear c45
      try clear c46
      try clear c48
      try clear c49
      try clear c52
      try clear c54
      try clear c56
      try clear c58
      try clear c59
      try clear c60
      try clear c62
      try clear c63
      try clear c72
      try clear c73
      try clear c74
      try clear c76
      try clear c77
      try clear c83
      try clear c84
      try clear c85
      try clear c87
      try clear c88
      try clear c92
      try clear c92b0
      try clear c92b1
      try clear d_m
      try clear f_U
      try clear f_V
      try clear f_W
      try clear e_6
      try clear f_X
      try clear f_Y
      try clear e_7
      try clear f_Z
      try clear e_8
      try clear f_0
      try clear f_1
      try clear f_2
      try clear f_3
      try clear f_4
      try clear f_5
      try clear f_6
      try clear f_7
      try clear f_8
      try clear f_9
      try clear g_a
      try clear g_b
      try clear g_c
      try clear g_d
      try clear g_e
      try clear g_f
      try clear d_p
      try clear g_i
      try clear g_j
      try clear g_k
      try clear f_b
      try clear g_l
      try clear g_m
      try clear f_c
      try clear g_n
      try clear f_d
      try clear g_o
      try clear g_p
      try clear g_q
      try clear g_r
      try clear g_s
      try clear g_t
      try clear g_u
      try clear g_v
      try clear g_w
      try clear g_x
      try clear g_y
      try clear g_z
      try clear g_A
      try clear g_B
      try clear g_C
      try clear g_D
      try clear c_4
      try clear c_5
      try clear p2
      try clear p26
      try clear p262
      try clear q2
      try clear q26
      try clear q262
      obtain ⟨kq,x77_90,rfl,HA,HJ90,a_v,a_r,a_D,a_K,a_I,a_E,HB⟩:=hcut
      cases kq with
      | zero => exact absurd HA.out (by simp [a_f.j2])
      | succ kj90 =>
       have H:=HA.out
       clear HA
       simp only [a_f.j2] at H
       by_cases c93 : x77_90 = true
       ·subst c93
        have H1 : (some false) = some r:=by rw [if_pos rfl] at H;exact H
        clear H
        have H:=H1
        clear H1
        obtain rfl:=Option.some.inj H
        go_wp2
        go_ret
        exact ⟨by first|rfl|(simp [a_t,a_u] <;> rfl)|(simp [*, a_t,a_u] <;> rfl),by repeat (first|(with_reducible first|exact HB.out|apply a_d|apply a_c|apply a_e|refine a_a ?_ a_L.out|refine a_a ?_ a_P.out|refine a_a ?_ a_Q.out|refine a_a ?_ b_n.out)|exact HB.out)⟩
       replace c93:=Bool.eq_false_iff.mpr c93
       subst c93
       have H1 : (a_f.l1 kj90 l2 t260 l1 (l1.length : Int) x32_1 l2 (l2.length : Int) 0 t252 t255 ((a_p l1 x32_1).f0) ((a_p l1 x32_1).f1)) = some r:=by rw [if_neg (show ¬ (false = true) by decide)] at H;exact H
       clear H
       have H:=H1
       clear H1
       have H':=a_b.mk H
       clear H
       go_wp2
       go_loopg [80] kj90 (fun kq v80 w' => ∃ (x80_4 : Int),v80 = .int .i64 x80_4 ∧ a_b (a_f.l1 kq l2 t260 l1 (l1.length : Int) x32_1 l2 (l2.length : Int) x80_4 t252 t255 ((a_p l1 x32_1).f0) ((a_p l1 x32_1).f1) = some r) ∧ a_b (kq ≤ kj90) ∧ a_b (Kd.R k56 56 w' w.heap.size (fun k_ => some k_ ≠ ((.slice Ao19 t255.length co19) : Value).ownBlock) (.slice Ao17 t252.length co17) t252) ∧ a_b (Kd.R k56 56 w' w.heap.size (fun k_ => some k_ ≠ ((.slice Ao17 t252.length co17) : Value).ownBlock) (.slice Ao19 t255.length co19) t255) ∧ a_b (w'.heap[a_W]? = some (.cells #[(.slice A0_0 l0_0.length c0_0)] 24 (0,0))) ∧ a_b (w'.heap[a_0]? = some (.cells #[(.slice Ao17 t252.length co17)] 24 (0,0))) ∧ a_b (w'.heap[a_X]? = some (.cells #[(.slice Ao19 t255.length co19)] 24 (0,0))) ∧ a_b (w'.heap[b_b]? = some (.cells #[.int .i64 ((a_p l1 x32_1).f0),.int .i64 ((a_p l1 x32_1).f1)] 39 (0,0))) ∧ a_b (Below w.heap.size w w'))
       case atStart => exact ⟨(0),(by first|rfl|(simp;done)|(simp [*];done)),H',⟨Nat.le_refl _⟩,⟨by (with_reducible repeat (first|apply Kd.a_T|apply Kd.a_U|apply Kd.a_9));exact a_v.out⟩,⟨by (with_reducible repeat (first|apply Kd.a_T|apply Kd.a_U|apply Kd.a_9));exact a_r.out⟩,⟨by (with_reducible repeat (first|refine a_o ?_ _|refine a_q ?_|refine a_n ?_ _));exact a_D.out⟩,⟨by (with_reducible repeat (first|refine a_o ?_ _|refine a_q ?_|refine a_n ?_ _));exact a_K.out⟩,⟨by (with_reducible repeat (first|refine a_o ?_ _|refine a_q ?_|refine a_n ?_ _));exact a_I.out⟩,⟨by (with_reducible repeat (first|refine a_o ?_ _|refine a_q ?_|refine a_n ?_ _));exact a_E.out⟩,⟨by repeat (first|(with_reducible first|exact HB.out|apply a_d|apply a_c|apply a_e|refine a_a ?_ a_L.out|refine a_a ?_ a_P.out|refine a_a ?_ a_Q.out|refine a_a ?_ b_n.out)|exact HB.out)⟩⟩
       case round =>
        clear H'
        try clear c1
        try clear c2
        try clear p2
        try clear q2
        try clear hx2
        try clear c3
        try clear c4
        try clear c5
        try clear c6
        try clear c7
        try clear c8
        try clear c9
        try clear c11
        try clear c16
        try clear c17
        try clear c18
        try clear c19
        try clear c21
        try clear c22
        try clear c24
        try clear c25
        try clear c25b0
        try clear c26
        try clear c26b0
        try clear p26
        try clear q26
        try clear hx26
        try clear c27
        try clear c27b0
        try clear c28
        try clear c28b0
        try clear c28b1
        try clear c31
        try clear c32
        try clear c33
        try clear c35
        try clear c36
        try clear c38
        try clear c44
        try clear c45
        try clear c46
        try clear c48
        try clear c49
        try clear c52
        try clear c54
        try clear c56
        try clear c58
        try clear c59
        try clear c60
        try clear c62
        try clear c63
        try clear c72
        try clear c73
        try clear c74
        try clear c76
        try clear c77
        try clear c83
        try clear c84
        try clear c85
        try clear c87
        try clear c88
        try clear c92
        try clear c92b0
        try clear c92b1
        try clear c93
        try clear d_m
        try clear f_U
        try clear f_V
        try clear f_W
        try clear e_6
        try clear f_X
        try clear f_Y
        try clear e_7
        try clear f_Z
        try clear e_8
        try clear f_0
        try clear f_1
        try clear f_2
        try clear f_3
        try clear f_4
        try clear f_5
        try clear f_6
        try clear f_7
        try clear f_8
        try clear f_9
        try clear g_a
        try clear g_b
        try clear g_c
        try clear g_d
        try clear g_e
        try clear g_f
        try clear d_p
        try clear g_i
        try clear g_j
        try clear g_k
        try clear f_b
        try clear g_l
        try clear g_m
        try clear f_c
        try clear g_n
        try clear f_d
        try clear g_o
        try clear g_p
        try clear g_q
        try clear g_r
        try clear g_s
        try clear g_t
        try clear g_u
        try clear g_v
        try clear g_w
        try clear g_x
        try clear g_y
        try clear g_z
        try clear g_A
        try clear g_B
        try clear g_C
        try clear g_D
        try clear c_4
        try clear c_5
        try clear p2
        try clear p26
        try clear p262
        try clear q2
        try clear q26
        try clear q262
        obtain ⟨x80_4,rfl,HA,HK4,a_v,a_r,a_D,a_K,a_I,a_E,HB⟩:=hrel
        cases gk with
        | zero => exact absurd HA.out (by simp [a_f.l1])
        | succ k4 =>
         have H:=HA.out
         clear HA
         simp only [a_f.l1] at H
         by_cases c94 : x80_4 < (l2.length : Int)
         rotate_left
         ·rw [if_neg c94] at H
          have c94b0 : decide (x80_4 < (l2.length : Int)) = false:=decide_eq_false c94
          clear c94
          have H':=a_b.mk H
          clear H
          go_wp2
          go_roundg k4
          case measure => have:=HK1.out;have:=HJ41.out;have:=HJ90.out;have:=HK4.out;omega
          case rel => exact ⟨(wrap64 (x32_1 + 1)),(by first|rfl|(simp;done)|(simp [*];done)),H',⟨by have:=HK1.out;have:=HJ41.out;have:=HJ90.out;have:=HK4.out;omega⟩,⟨by (with_reducible repeat (first|apply Kd.a_T|apply Kd.a_U|apply Kd.a_9));exact a_v.out⟩,⟨by (with_reducible repeat (first|apply Kd.a_T|apply Kd.a_U|apply Kd.a_9));exact a_r.out⟩,⟨by (with_reducible repeat (first|refine a_o ?_ _|refine a_q ?_|refine a_n ?_ _));exact a_D.out⟩,⟨by (with_reducible repeat (first|refine a_o ?_ _|refine a_q ?_|refine a_n ?_ _));exact a_K.out⟩,⟨by (with_reducible repeat (first|refine a_o ?_ _|refine a_q ?_|refine a_n ?_ _));exact a_I.out⟩,⟨by repeat (first|(with_reducible first|exact HB.out|apply a_d|apply a_c|apply a_e|refine a_a ?_ a_L.out|refine a_a ?_ a_P.out|refine a_a ?_ a_Q.out|refine a_a ?_ b_n.out)|exact HB.out)⟩⟩
         rw [if_pos c94] at H
         have c94b0 : decide (x80_4 < (l2.length : Int)) = true:=decide_eq_true c94
         clear c94
         by_cases c95 : 0 ≤ x80_4
         rotate_left
         ·rw [if_neg c95] at H
          exact absurd H (by simp)
         rw [if_pos c95] at H
         have c95b0 : decide (0 ≤ x80_4) = true:=decide_eq_true c95
         clear c95
         by_cases c96 : x80_4 < (l2.length : Int)
         rotate_left
         ·rw [if_neg c96] at H
          exact absurd H (by simp)
         rw [if_pos c96] at H
         have c96b0 : decide (x80_4 < (l2.length : Int)) = true:=decide_eq_true c96
         clear c96
         by_cases c97 : x80_4 = 6
         ·rw [if_pos c97] at H
          have c97b0 : (x80_4 == 6) = true:=beq_iff_eq.mpr c97
          have c97b1 : (x80_4 != 6) = false:=bne_eq_false_iff_eq.mpr c97
          clear c97
          have H':=a_b.mk H
          clear H
          have p270 : 0 ≤ (x80_4 : Int):=of_decide_eq_true (by first|(with_reducible assumption)|assumption)
          have q270 : x80_4 < (l2.length : Int):=of_decide_eq_true (by first|(with_reducible assumption)|assumption)
          obtain ⟨ad270,e270,b_a⟩:=Kd.c_B HR2.out x80_4 p270 q270
          cases e270
          replace b_a:=(HB.out.cell (World.block_lt_of_cell? w _ b_a)).trans b_a
          replace p270:=eq_true p270
          replace q270:=eq_true q270
          go_wp2
          go_roundg k4
          case measure => have:=HK1.out;have:=HJ41.out;have:=HJ90.out;have:=HK4.out;omega
          case rel => exact ⟨(wrap64 (x32_1 + 1)),(by first|rfl|(simp;done)|(simp [*];done)),H',⟨by have:=HK1.out;have:=HJ41.out;have:=HJ90.out;have:=HK4.out;omega⟩,⟨by (with_reducible repeat (first|apply Kd.a_T|apply Kd.a_U|apply Kd.a_9));exact a_v.out⟩,⟨by (with_reducible repeat (first|apply Kd.a_T|apply Kd.a_U|apply Kd.a_9));exact a_r.out⟩,⟨by (with_reducible repeat (first|refine a_o ?_ _|refine a_q ?_|refine a_n ?_ _));exact a_D.out⟩,⟨by (with_reducible repeat (first|refine a_o ?_ _|refine a_q ?_|refine a_n ?_ _));exact a_K.out⟩,⟨by (with_reducible repeat (first|refine a_o ?_ _|refine a_q ?_|refine a_n ?_ _));exact a_I.out⟩,⟨by repeat (first|(with_reducible first|exact HB.out|apply a_d|apply a_c|apply a_e|refine a_a ?_ a_L.out|refine a_a ?_ a_P.out|refine a_a ?_ a_Q.out|refine a_a ?_ b_n.out)|exact HB.out)⟩⟩
         rw [if_neg c97] at H
         have c97b0 : (x80_4 == 6) = false:=beq_eq_false_iff_ne.mpr c97
         have c97b1 : (x80_4 != 6) = true:=bne_iff_ne.mpr c97
         replace H:=Option.bind_eq_some_iff.mp H
         obtain ⟨⟨t271,t274⟩,A980,H⟩:=H
         replace H : (if t260 = true then ((a_C.f t255 ((a_p l1 x32_1).f0)).bind fun t275 => (if t275 = true then ((a_1.f (rd l2 x80_4)).bind fun t276 => (if t276 = true then ((a_m.f k4 t255 ((a_p l1 x32_1).f0) (rd l2 x80_4)).bind fun t277 => (if t274 = 0 then ((a_j.f k4 t271 t277).bind fun t280 => (if t280 = true then (a_f.l1 k4 l2 t260 l1 (l1.length : Int) x32_1 l2 (l2.length : Int) (wrap64 (x80_4 + 1)) t252 t255 ((a_p l1 x32_1).f0) ((a_p l1 x32_1).f1)) else (some false))) else (some false))) else (if t274 = 140 then ((a_j.f k4 t271 ([] : List Int)).bind fun t281 => (if t281 = true then (a_f.l1 k4 l2 t260 l1 (l1.length : Int) x32_1 l2 (l2.length : Int) (wrap64 (x80_4 + 1)) t252 t255 ((a_p l1 x32_1).f0) ((a_p l1 x32_1).f1)) else (some false))) else (some false)))) else (if t274 = 2 then ((a_j.f k4 t271 ([] : List Int)).bind fun t282 => (if t282 = true then (a_f.l1 k4 l2 t260 l1 (l1.length : Int) x32_1 l2 (l2.length : Int) (wrap64 (x80_4 + 1)) t252 t255 ((a_p l1 x32_1).f0) ((a_p l1 x32_1).f1)) else (some false))) else (some false)))) else (if t274 = 160 then ((a_j.f k4 t271 ([] : List Int)).bind fun t283 => (if t283 = true then (a_f.l1 k4 l2 t260 l1 (l1.length : Int) x32_1 l2 (l2.length : Int) (wrap64 (x80_4 + 1)) t252 t255 ((a_p l1 x32_1).f0) ((a_p l1 x32_1).f1)) else (some false))) else (some false))) = some r:=H
         have A98:=a_b.mk A980
         clear A980
         by_cases c99 : t260 = true
         rotate_left
         ·replace c99:=Bool.eq_false_iff.mpr c99
          subst c99
          have H1 : (if t274 = 160 then ((a_j.f k4 t271 ([] : List Int)).bind fun t283 => (if t283 = true then (a_f.l1 k4 l2 false l1 (l1.length : Int) x32_1 l2 (l2.length : Int) (wrap64 (x80_4 + 1)) t252 t255 ((a_p l1 x32_1).f0) ((a_p l1 x32_1).f1)) else (some false))) else (some false)) = some r:=by rw [if_neg (show ¬ (false = true) by decide)] at H;exact H
          clear H
          have H:=H1
          clear H1
          by_cases c239 : t274 = 160
          rotate_left
          ·rw [if_neg c239] at H
           have c239b0 : (t274 == 160) = false:=beq_eq_false_iff_ne.mpr c239
           have c239b1 : (t274 != 160) = true:=bne_iff_ne.mpr c239
           obtain rfl:=Option.some.inj H
           have p270 : 0 ≤ (x80_4 : Int):=of_decide_eq_true (by first|(with_reducible assumption)|assumption)
           have q270 : x80_4 < (l2.length : Int):=of_decide_eq_true (by first|(with_reducible assumption)|assumption)
           obtain ⟨ad270,e270,b_a⟩:=Kd.c_B HR2.out x80_4 p270 q270
           cases e270
           replace b_a:=(HB.out.cell (World.block_lt_of_cell? w _ b_a)).trans b_a
           replace p270:=eq_true p270
           replace q270:=eq_true q270
           have p_s:=a_3.out
           have q_D:=a_Y.out
           have p_t:=a_6.out
           have q_E:=a_7.out
           have p_u:=b_x.out
           have q_F:=b_O.out
           have l_I : wr.cell? ⟨a_0,0,none⟩ = some (.slice Ao17 t252.length co17):=(a_k a_K.out 0).trans rfl
           have m_U:=a_g a_K.out 0
           have p_v:=b_N.out
           have q_G:=b_w.out
           have p_w:=b_P.out
           have q_H:=b_y.out
           have l_J : wr.cell? ⟨b_b,0,none⟩ = some (.int .i64 ((a_p l1 x32_1).f0)):=(a_k a_E.out 0).trans rfl
           have l_K : wr.cell? ⟨b_b,1,none⟩ = some (.int .i64 ((a_p l1 x32_1).f1)):=(a_k a_E.out 1).trans rfl
           have m_V:=a_g a_E.out 0
           have m_W:=a_g a_E.out 1
           go_wp2_with (first|((with_reducible refine a_y (f:=20) rfl ?_);refine a_5 (some 92) rfl rfl Tryd.func20 (by kernel_rfl) rfl #[.agg #[.slice Ao17 t252.length co17],.int .i64 ((a_p l1 x32_1).f0),.int .u32 (rd l2 x80_4)] rfl (by (try simp only [List.map_toArray,List.map_cons,List.map_nil]);first|done|rfl|(simp only [List.length_drop,List.length_take];rfl)) ?_;(with_reducible refine (b_e.calls _ _ t252 ((a_p l1 x32_1).f0) (rd l2 x80_4) t271 t274 _ ?side1 ?side2 ?side3 A98.out).mono ?_);(case side1 => repeat (first|exact (Kd.a_z a_v.out).2.2|(with_reducible refine Kd.a_N ?_ _)|(with_reducible refine Kd.a_O ?_ _)|(with_reducible refine Kd.a_8 ?_)));(case side2 => exact (Kd.a_z a_v.out).2.1);(case side3 => exact b_W.below HTAB_.out (by repeat (first|(with_reducible first|exact HB.out|apply a_d|apply a_c|apply a_e|refine a_a ?_ a_L.out|refine a_a ?_ a_P.out|refine a_a ?_ a_Q.out|refine a_a ?_ b_n.out)|exact HB.out)));rintro e w267 ⟨v272,rfl,ho0,hb⟩;refine ⟨_,rfl,?_⟩;have b_H:=a_b.mk (Kd.b_o ho0 (a_i (by repeat (first|(with_reducible first|exact HB.out|apply a_d|apply a_c|apply a_e|refine a_a ?_ a_L.out|refine a_a ?_ a_P.out|refine a_a ?_ a_Q.out|refine a_a ?_ b_n.out)|exact HB.out))));replace a_v:=a_b.mk (Kd.a_B (rup_ a_v.out) hb);replace a_r:=a_b.mk (Kd.a_B (rup_ a_r.out) hb);replace a_D:=a_b.mk (a_h (bup_ a_D.out) hb);replace a_K:=a_b.mk (a_h (bup_ a_K.out) hb);replace a_I:=a_b.mk (a_h (bup_ a_I.out) hb);replace a_E:=a_b.mk (a_h (bup_ a_E.out) hb);replace HB:=a_b.mk (a_l (by repeat (first|(with_reducible first|exact HB.out|apply a_d|apply a_c|apply a_e|refine a_a ?_ a_L.out|refine a_a ?_ a_P.out|refine a_a ?_ a_Q.out|refine a_a ?_ b_n.out)|exact HB.out)) hb);(try clear hb);(try clear hb2);(try clear hk);(try clear hi);(try clear ho0)))
           go_ret
           exact ⟨by first|rfl|(simp [a_t,a_u] <;> rfl)|(simp [*, a_t,a_u] <;> rfl),by repeat (first|(with_reducible first|exact HB.out|apply a_d|apply a_c|apply a_e|refine a_a ?_ a_L.out|refine a_a ?_ a_P.out|refine a_a ?_ a_Q.out|refine a_a ?_ b_n.out)|exact HB.out)⟩
          rw [if_pos c239] at H
          have c239b0 : (t274 == 160) = true:=beq_iff_eq.mpr c239
          have c239b1 : (t274 != 160) = false:=bne_eq_false_iff_eq.mpr c239
          clear c239
          replace H:=Option.bind_eq_some_iff.mp H
          obtain ⟨t283,A2400,H⟩:=H
          replace H : (if t283 = true then (a_f.l1 k4 l2 false l1 (l1.length : Int) x32_1 l2 (l2.length : Int) (wrap64 (x80_4 + 1)) t252 t255 ((a_p l1 x32_1).f0) ((a_p l1 x32_1).f1)) else (some false)) = some r:=H
          have A240:=a_b.mk A2400
          clear A2400
          by_cases c241 : t283 = true
          ·subst c241
           have H1 : (a_f.l1 k4 l2 false l1 (l1.length : Int) x32_1 l2 (l2.length : Int) (wrap64 (x80_4 + 1)) t252 t255 ((a_p l1 x32_1).f0) ((a_p l1 x32_1).f1)) = some r:=by rw [if_pos rfl] at H;exact H
           clear H
           have H:=H1
           clear H1
           have H':=a_b.mk H
           clear H
           have p270 : 0 ≤ (x80_4 : Int):=of_decide_eq_true (by first|(with_reducible assumption)|assumption)
           have q270 : x80_4 < (l2.length : Int):=of_decide_eq_true (by first|(with_reducible assumption)|assumption)
           obtain ⟨ad270,e270,b_a⟩:=Kd.c_B HR2.out x80_4 p270 q270
           cases e270
           replace b_a:=(HB.out.cell (World.block_lt_of_cell? w _ b_a)).trans b_a
           replace p270:=eq_true p270
           replace q270:=eq_true q270
           have p_i:=a_3.out
           have q_t:=a_Y.out
           have p_j:=a_6.out
           have q_u:=a_7.out
           have p_k:=b_x.out
           have q_v:=b_O.out
           have l_C : wr.cell? ⟨a_0,0,none⟩ = some (.slice Ao17 t252.length co17):=(a_k a_K.out 0).trans rfl
           have m_O:=a_g a_K.out 0
           have p_l:=b_N.out
           have q_w:=b_w.out
           have p_m:=b_P.out
           have q_x:=b_y.out
           have l_D : wr.cell? ⟨b_b,0,none⟩ = some (.int .i64 ((a_p l1 x32_1).f0)):=(a_k a_E.out 0).trans rfl
           have l_E : wr.cell? ⟨b_b,1,none⟩ = some (.int .i64 ((a_p l1 x32_1).f1)):=(a_k a_E.out 1).trans rfl
           have m_P:=a_g a_E.out 0
           have m_Q:=a_g a_E.out 1
           go_wp2_with (first|((with_reducible refine a_y (f:=20) rfl ?_);refine a_5 (some 92) rfl rfl Tryd.func20 (by kernel_rfl) rfl #[.agg #[.slice Ao17 t252.length co17],.int .i64 ((a_p l1 x32_1).f0),.int .u32 (rd l2 x80_4)] rfl (by (try simp only [List.map_toArray,List.map_cons,List.map_nil]);first|done|rfl|(simp only [List.length_drop,List.length_take];rfl)) ?_;(with_reducible refine (b_e.calls _ _ t252 ((a_p l1 x32_1).f0) (rd l2 x80_4) t271 t274 _ ?side1 ?side2 ?side3 A98.out).mono ?_);(case side1 => repeat (first|exact (Kd.a_z a_v.out).2.2|(with_reducible refine Kd.a_N ?_ _)|(with_reducible refine Kd.a_O ?_ _)|(with_reducible refine Kd.a_8 ?_)));(case side2 => exact (Kd.a_z a_v.out).2.1);(case side3 => exact b_W.below HTAB_.out (by repeat (first|(with_reducible first|exact HB.out|apply a_d|apply a_c|apply a_e|refine a_a ?_ a_L.out|refine a_a ?_ a_P.out|refine a_a ?_ a_Q.out|refine a_a ?_ b_n.out)|exact HB.out)));rintro e w249 ⟨v272,rfl,ho0,hb⟩;refine ⟨_,rfl,?_⟩;have b_H:=a_b.mk (Kd.b_o ho0 (a_i (by repeat (first|(with_reducible first|exact HB.out|apply a_d|apply a_c|apply a_e|refine a_a ?_ a_L.out|refine a_a ?_ a_P.out|refine a_a ?_ a_Q.out|refine a_a ?_ b_n.out)|exact HB.out))));replace a_v:=a_b.mk (Kd.a_B (rup_ a_v.out) hb);replace a_r:=a_b.mk (Kd.a_B (rup_ a_r.out) hb);replace a_D:=a_b.mk (a_h (bup_ a_D.out) hb);replace a_K:=a_b.mk (a_h (bup_ a_K.out) hb);replace a_I:=a_b.mk (a_h (bup_ a_I.out) hb);replace a_E:=a_b.mk (a_h (bup_ a_E.out) hb);replace HB:=a_b.mk (a_l (by repeat (first|(with_reducible first|exact HB.out|apply a_d|apply a_c|apply a_e|refine a_a ?_ a_L.out|refine a_a ?_ a_P.out|refine a_a ?_ a_Q.out|refine a_a ?_ b_n.out)|exact HB.out)) hb);(try clear hb);(try clear hb2);(try clear hk);(try clear hi);(try clear ho0);obtain ⟨q_T,r_g,n_m⟩:=Kd.b_V b_H.out;subst n_m)|(go_at_call 23;(refine (a_j.calls k4 _ _ t271 _ _ ([] : List Int) true _ ?side1 ?side2 ?side3 ?side4 A240.out).mono ?_);(case side1 => repeat (first|exact (Kd.a_z b_H.out).2.2|(with_reducible refine Kd.a_N ?_ _)|(with_reducible refine Kd.a_O ?_ _)|(with_reducible refine Kd.a_8 ?_)));(case side2 => exact (Kd.a_z b_H.out).2.1);(case side3 => exact Kd.f_I _ _);(case side4 => exact Nat.le_refl _);rintro e w' ⟨rfl,⟨nd,rfl⟩⟩))
           go_roundg k4
           case measure => have:=HK1.out;have:=HJ41.out;have:=HJ90.out;have:=HK4.out;omega
           case rel => exact ⟨(wrap64 (x80_4 + 1)),(by first|rfl|(simp;done)|(simp [*];done)),H',⟨by have:=HK1.out;have:=HJ41.out;have:=HJ90.out;have:=HK4.out;omega⟩,⟨by (with_reducible repeat (first|apply Kd.a_T|apply Kd.a_U|apply Kd.a_9));exact a_v.out⟩,⟨by (with_reducible repeat (first|apply Kd.a_T|apply Kd.a_U|apply Kd.a_9));exact a_r.out⟩,⟨by (with_reducible repeat (first|refine a_o ?_ _|refine a_q ?_|refine a_n ?_ _));exact a_D.out⟩,⟨by (with_reducible repeat (first|refine a_o ?_ _|refine a_q ?_|refine a_n ?_ _));exact a_K.out⟩,⟨by (with_reducible repeat (first|refine a_o ?_ _|refine a_q ?_|refine a_n ?_ _));exact a_I.out⟩,⟨by (with_reducible repeat (first|refine a_o ?_ _|refine a_q ?_|refine a_n ?_ _));exact a_E.out⟩,⟨by repeat (first|(with_reducible first|exact HB.out|apply a_d|apply a_c|apply a_e|refine a_a ?_ a_L.out|refine a_a ?_ a_P.out|refine a_a ?_ a_Q.out|refine a_a ?_ b_n.out)|exact HB.out)⟩⟩
          replace c241:=Bool.eq_false_iff.mpr c241
          subst c241
          have H1 : (some false) = some r:=by rw [if_neg (show ¬ (false = true) by decide)] at H;exact H
          clear H
          have H:=H1
          clear H1
          obtain rfl:=Option.some.inj H
          have p270 : 0 ≤ (x80_4 : Int):=of_decide_eq_true (by first|(with_reducible assumption)|assumption)
          have q270 : x80_4 < (l2.length : Int):=of_decide_eq_true (by first|(with_reducible assumption)|assumption)
          obtain ⟨ad270,e270,b_a⟩:=Kd.c_B HR2.out x80_4 p270 q270
          cases e270
          replace b_a:=(HB.out.cell (World.block_lt_of_cell? w _ b_a)).trans b_a
          replace p270:=eq_true p270
          replace q270:=eq_true q270
          have p_n:=a_3.out
          have q_y:=a_Y.out
          have p_o:=a_6.out
          have q_z:=a_7.out
          have p_p:=b_x.out
          have q_A:=b_O.out
          have l_F : wr.cell? ⟨a_0,0,none⟩ = some (.slice Ao17 t252.length co17):=(a_k a_K.out 0).trans rfl
          have m_R:=a_g a_K.out 0
          have p_q:=b_N.out
          have q_B:=b_w.out
          have p_r:=b_P.out
          have q_C:=b_y.out
          have l_G : wr.cell? ⟨b_b,0,none⟩ = some (.int .i64 ((a_p l1 x32_1).f0)):=(a_k a_E.out 0).trans rfl
          have l_H : wr.cell? ⟨b_b,1,none⟩ = some (.int .i64 ((a_p l1 x32_1).f1)):=(a_k a_E.out 1).trans rfl
          have m_S:=a_g a_E.out 0
          have m_T:=a_g a_E.out 1
          go_wp2_with (first|((with_reducible refine a_y (f:=20) rfl ?_);refine a_5 (some 92) rfl rfl Tryd.func20 (by kernel_rfl) rfl #[.agg #[.slice Ao17 t252.length co17],.int .i64 ((a_p l1 x32_1).f0),.int .u32 (rd l2 x80_4)] rfl (by (try simp only [List.map_toArray,List.map_cons,List.map_nil]);first|done|rfl|(simp only [List.length_drop,List.length_take];rfl)) ?_;(with_reducible refine (b_e.calls _ _ t252 ((a_p l1 x32_1).f0) (rd l2 x80_4) t271 t274 _ ?side1 ?side2 ?side3 A98.out).mono ?_);(case side1 => repeat (first|exact (Kd.a_z a_v.out).2.2|(with_reducible refine Kd.a_N ?_ _)|(with_reducible refine Kd.a_O ?_ _)|(with_reducible refine Kd.a_8 ?_)));(case side2 => exact (Kd.a_z a_v.out).2.1);(case side3 => exact b_W.below HTAB_.out (by repeat (first|(with_reducible first|exact HB.out|apply a_d|apply a_c|apply a_e|refine a_a ?_ a_L.out|refine a_a ?_ a_P.out|refine a_a ?_ a_Q.out|refine a_a ?_ b_n.out)|exact HB.out)));rintro e w258 ⟨v272,rfl,ho0,hb⟩;refine ⟨_,rfl,?_⟩;have b_H:=a_b.mk (Kd.b_o ho0 (a_i (by repeat (first|(with_reducible first|exact HB.out|apply a_d|apply a_c|apply a_e|refine a_a ?_ a_L.out|refine a_a ?_ a_P.out|refine a_a ?_ a_Q.out|refine a_a ?_ b_n.out)|exact HB.out))));replace a_v:=a_b.mk (Kd.a_B (rup_ a_v.out) hb);replace a_r:=a_b.mk (Kd.a_B (rup_ a_r.out) hb);replace a_D:=a_b.mk (a_h (bup_ a_D.out) hb);replace a_K:=a_b.mk (a_h (bup_ a_K.out) hb);replace a_I:=a_b.mk (a_h (bup_ a_I.out) hb);replace a_E:=a_b.mk (a_h (bup_ a_E.out) hb);replace HB:=a_b.mk (a_l (by repeat (first|(with_reducible first|exact HB.out|apply a_d|apply a_c|apply a_e|refine a_a ?_ a_L.out|refine a_a ?_ a_P.out|refine a_a ?_ a_Q.out|refine a_a ?_ b_n.out)|exact HB.out)) hb);(try clear hb);(try clear hb2);(try clear hk);(try clear hi);(try clear ho0);obtain ⟨q_U,r_h,n_n⟩:=Kd.b_V b_H.out;subst n_n)|(go_at_call 23;(refine (a_j.calls k4 _ _ t271 _ _ ([] : List Int) false _ ?side1 ?side2 ?side3 ?side4 A240.out).mono ?_);(case side1 => repeat (first|exact (Kd.a_z b_H.out).2.2|(with_reducible refine Kd.a_N ?_ _)|(with_reducible refine Kd.a_O ?_ _)|(with_reducible refine Kd.a_8 ?_)));(case side2 => exact (Kd.a_z b_H.out).2.1);(case side3 => exact Kd.f_I _ _);(case side4 => exact Nat.le_refl _);rintro e w' ⟨rfl,⟨nd,rfl⟩⟩))
          go_ret
          exact ⟨by first|rfl|(simp [a_t,a_u] <;> rfl)|(simp [*, a_t,a_u] <;> rfl),by repeat (first|(with_reducible first|exact HB.out|apply a_d|apply a_c|apply a_e|refine a_a ?_ a_L.out|refine a_a ?_ a_P.out|refine a_a ?_ a_Q.out|refine a_a ?_ b_n.out)|exact HB.out)⟩
         subst c99
         have H1 : ((a_C.f t255 ((a_p l1 x32_1).f0)).bind fun t275 => (if t275 = true then ((a_1.f (rd l2 x80_4)).bind fun t276 => (if t276 = true then ((a_m.f k4 t255 ((a_p l1 x32_1).f0) (rd l2 x80_4)).bind fun t277 => (if t274 = 0 then ((a_j.f k4 t271 t277).bind fun t280 => (if t280 = true then (a_f.l1 k4 l2 true l1 (l1.length : Int) x32_1 l2 (l2.length : Int) (wrap64 (x80_4 + 1)) t252 t255 ((a_p l1 x32_1).f0) ((a_p l1 x32_1).f1)) else (some false))) else (some false))) else (if t274 = 140 then ((a_j.f k4 t271 ([] : List Int)).bind fun t281 => (if t281 = true then (a_f.l1 k4 l2 true l1 (l1.length : Int) x32_1 l2 (l2.length : Int) (wrap64 (x80_4 + 1)) t252 t255 ((a_p l1 x32_1).f0) ((a_p l1 x32_1).f1)) else (some false))) else (some false)))) else (if t274 = 2 then ((a_j.f k4 t271 ([] : List Int)).bind fun t282 => (if t282 = true then (a_f.l1 k4 l2 true l1 (l1.length : Int) x32_1 l2 (l2.length : Int) (wrap64 (x80_4 + 1)) t252 t255 ((a_p l1 x32_1).f0) ((a_p l1 x32_1).f1)) else (some false))) else (some false)))) = some r:=by rw [if_pos rfl] at H;exact H
         clear H
         have H:=H1
         clear H1
         replace H:=Option.bind_eq_some_iff.mp H
         obtain ⟨t275,A1000,H⟩:=H
         replace H : (if t275 = true then ((a_1.f (rd l2 x80_4)).bind fun t276 => (if t276 = true then ((a_m.f k4 t255 ((a_p l1 x32_1).f0) (rd l2 x80_4)).bind fun t277 => (if t274 = 0 then ((a_j.f k4 t271 t277).bind fun t280 => (if t280 = true then (a_f.l1 k4 l2 true l1 (l1.length : Int) x32_1 l2 (l2.length : Int) (wrap64 (x80_4 + 1)) t252 t255 ((a_p l1 x32_1).f0) ((a_p l1 x32_1).f1)) else (some false))) else (some false))) else (if t274 = 140 then ((a_j.f k4 t271 ([] : List Int)).bind fun t281 => (if t281 = true then (a_f.l1 k4 l2 true l1 (l1.length : Int) x32_1 l2 (l2.length : Int) (wrap64 (x80_4 + 1)) t252 t255 ((a_p l1 x32_1).f0) ((a_p l1 x32_1).f1)) else (some false))) else (some false)))) else (if t274 = 2 then ((a_j.f k4 t271 ([] : List Int)).bind fun t282 => (if t282 = true then (a_f.l1 k4 l2 true l1 (l1.length : Int) x32_1 l2 (l2.length : Int) (wrap64 (x80_4 + 1)) t252 t255 ((a_p l1 x32_1).f0) ((a_p l1 x32_1).f1)) else (some false))) else (some false))) = some r:=H
         have A100:=a_b.mk A1000
         clear A1000
         by_cases c101 : t275 = true
         rotate_left
         ·replace c101:=Bool.eq_false_iff.mpr c101
          subst c101
          have H1 : (if t274 = 2 then ((a_j.f k4 t271 ([] : List Int)).bind fun t282 => (if t282 = true then (a_f.l1 k4 l2 true l1 (l1.length : Int) x32_1 l2 (l2.length : Int) (wrap64 (x80_4 + 1)) t252 t255 ((a_p l1 x32_1).f0) ((a_p l1 x32_1).f1)) else (some false))) else (some false)) = some r:=by rw [if_neg (show ¬ (false = true) by decide)] at H;exact H
          clear H
          have H:=H1
          clear H1
          by_cases c198 : t274 = 2
          rotate_left
          ·rw [if_neg c198] at H
           have c198b0 : (t274 == 2) = false:=beq_eq_false_iff_ne.mpr c198
           have c198b1 : (t274 != 2) = true:=bne_iff_ne.mpr c198
           obtain rfl:=Option.some.inj H
           have p270 : 0 ≤ (x80_4 : Int):=of_decide_eq_true (by first|(with_reducible assumption)|assumption)
           have q270 : x80_4 < (l2.length : Int):=of_decide_eq_true (by first|(with_reducible assumption)|assumption)
           obtain ⟨ad270,e270,b_a⟩:=Kd.c_B HR2.out x80_4 p270 q270
           cases e270
           replace b_a:=(HB.out.cell (World.block_lt_of_cell? w _ b_a)).trans b_a
           replace p270:=eq_true p270
           replace q270:=eq_true q270
           have p_c:=a_3.out
           have q_n:=a_Y.out
           have p_d:=a_6.out
           have q_o:=a_7.out
           have p_e:=b_x.out
           have q_p:=b_O.out
           have l_w : wr.cell? ⟨a_0,0,none⟩ = some (.slice Ao17 t252.length co17):=(a_k a_K.out 0).trans rfl
           have m_I:=a_g a_K.out 0
           have p_f:=b_N.out
           have q_q:=b_w.out
           have p_g:=b_P.out
           have q_r:=b_y.out
           have l_x : wr.cell? ⟨b_b,0,none⟩ = some (.int .i64 ((a_p l1 x32_1).f0)):=(a_k a_E.out 0).trans rfl
           have l_y : wr.cell? ⟨b_b,1,none⟩ = some (.int .i64 ((a_p l1 x32_1).f1)):=(a_k a_E.out 1).trans rfl
           have m_J:=a_g a_E.out 0
           have m_K:=a_g a_E.out 1
           go_wp2_with (first|((with_reducible refine a_y (f:=20) rfl ?_);refine a_5 (some 92) rfl rfl Tryd.func20 (by kernel_rfl) rfl #[.agg #[.slice Ao17 t252.length co17],.int .i64 ((a_p l1 x32_1).f0),.int .u32 (rd l2 x80_4)] rfl (by (try simp only [List.map_toArray,List.map_cons,List.map_nil]);first|done|rfl|(simp only [List.length_drop,List.length_take];rfl)) ?_;(with_reducible refine (b_e.calls _ _ t252 ((a_p l1 x32_1).f0) (rd l2 x80_4) t271 t274 _ ?side1 ?side2 ?side3 A98.out).mono ?_);(case side1 => repeat (first|exact (Kd.a_z a_v.out).2.2|(with_reducible refine Kd.a_N ?_ _)|(with_reducible refine Kd.a_O ?_ _)|(with_reducible refine Kd.a_8 ?_)));(case side2 => exact (Kd.a_z a_v.out).2.1);(case side3 => exact b_W.below HTAB_.out (by repeat (first|(with_reducible first|exact HB.out|apply a_d|apply a_c|apply a_e|refine a_a ?_ a_L.out|refine a_a ?_ a_P.out|refine a_a ?_ a_Q.out|refine a_a ?_ b_n.out)|exact HB.out)));rintro e w234 ⟨v272,rfl,ho0,hb⟩;refine ⟨_,rfl,?_⟩;have b_H:=a_b.mk (Kd.b_o ho0 (a_i (by repeat (first|(with_reducible first|exact HB.out|apply a_d|apply a_c|apply a_e|refine a_a ?_ a_L.out|refine a_a ?_ a_P.out|refine a_a ?_ a_Q.out|refine a_a ?_ b_n.out)|exact HB.out))));replace a_v:=a_b.mk (Kd.a_B (rup_ a_v.out) hb);replace a_r:=a_b.mk (Kd.a_B (rup_ a_r.out) hb);replace a_D:=a_b.mk (a_h (bup_ a_D.out) hb);replace a_K:=a_b.mk (a_h (bup_ a_K.out) hb);replace a_I:=a_b.mk (a_h (bup_ a_I.out) hb);replace a_E:=a_b.mk (a_h (bup_ a_E.out) hb);replace HB:=a_b.mk (a_l (by repeat (first|(with_reducible first|exact HB.out|apply a_d|apply a_c|apply a_e|refine a_a ?_ a_L.out|refine a_a ?_ a_P.out|refine a_a ?_ a_Q.out|refine a_a ?_ b_n.out)|exact HB.out)) hb);(try clear hb);(try clear hb2);(try clear hk);(try clear hi);(try clear ho0);have p_h:=a_4.out;have q_s:=a_Z.out;have l_z : w234.cell? ⟨a_X,0,none⟩ = some (.slice Ao19 t255.length co19):=(a_k a_I.out 0).trans rfl;have m_L:=a_g a_I.out 0;have l_A : w234.cell? ⟨b_b,0,none⟩ = some (.int .i64 ((a_p l1 x32_1).f0)):=(a_k a_E.out 0).trans rfl;have l_B : w234.cell? ⟨b_b,1,none⟩ = some (.int .i64 ((a_p l1 x32_1).f1)):=(a_k a_E.out 1).trans rfl;have m_M:=a_g a_E.out 0;have m_N:=a_g a_E.out 1)|((with_reducible refine a_y (f:=18) rfl ?_);refine a_5 (some 107) rfl rfl Tryd.func18 (by kernel_rfl) rfl #[.agg #[.slice Ao19 t255.length co19],.int .i64 ((a_p l1 x32_1).f0)] rfl (by (try simp only [List.map_toArray,List.map_cons,List.map_nil]);first|done|rfl|(simp only [List.length_drop,List.length_take];rfl)) ?_;(with_reducible refine (a_C.calls _ _ t255 ((a_p l1 x32_1).f0) false _ ?side1 ?side2 A100.out).mono ?_);(case side1 => repeat (first|exact (Kd.a_z a_r.out).2.2|(with_reducible refine Kd.a_N ?_ _)|(with_reducible refine Kd.a_O ?_ _)|(with_reducible refine Kd.a_8 ?_)));(case side2 => exact (Kd.a_z a_r.out).2.1);rintro e w238 ⟨rfl,hb⟩;refine ⟨_,rfl,?_⟩;replace a_v:=a_b.mk (Kd.a_B (rup_ a_v.out) hb);replace a_r:=a_b.mk (Kd.a_B (rup_ a_r.out) hb);replace b_H:=a_b.mk (Kd.a_B (rup_ b_H.out) hb);replace a_D:=a_b.mk (a_h (bup_ a_D.out) hb);replace a_K:=a_b.mk (a_h (bup_ a_K.out) hb);replace a_I:=a_b.mk (a_h (bup_ a_I.out) hb);replace a_E:=a_b.mk (a_h (bup_ a_E.out) hb);replace HB:=a_b.mk (a_l (by repeat (first|(with_reducible first|exact HB.out|apply a_d|apply a_c|apply a_e|refine a_a ?_ a_L.out|refine a_a ?_ a_P.out|refine a_a ?_ a_Q.out|refine a_a ?_ b_n.out)|exact HB.out)) hb);(try clear hb);(try clear hb2);(try clear hk);(try clear hi)))
           go_ret
           exact ⟨by first|rfl|(simp [a_t,a_u] <;> rfl)|(simp [*, a_t,a_u] <;> rfl),by repeat (first|(with_reducible first|exact HB.out|apply a_d|apply a_c|apply a_e|refine a_a ?_ a_L.out|refine a_a ?_ a_P.out|refine a_a ?_ a_Q.out|refine a_a ?_ b_n.out)|exact HB.out)⟩
          rw [if_pos c198] at H
          have c198b0 : (t274 == 2) = true:=beq_iff_eq.mpr c198
          have c198b1 : (t274 != 2) = false:=bne_eq_false_iff_eq.mpr c198
          clear c198
          replace H:=Option.bind_eq_some_iff.mp H
          obtain ⟨t282,A1990,H⟩:=H
          replace H : (if t282 = true then (a_f.l1 k4 l2 true l1 (l1.length : Int) x32_1 l2 (l2.length : Int) (wrap64 (x80_4 + 1)) t252 t255 ((a_p l1 x32_1).f0) ((a_p l1 x32_1).f1)) else (some false)) = some r:=H
          have A199:=a_b.mk A1990
          clear A1990
          by_cases c200 : t282 = true
          ·subst c200
           have H1 : (a_f.l1 k4 l2 true l1 (l1.length : Int) x32_1 l2 (l2.length : Int) (wrap64 (x80_4 + 1)) t252 t255 ((a_p l1 x32_1).f0) ((a_p l1 x32_1).f1)) = some r:=by rw [if_pos rfl] at H;exact H
           clear H
           have H:=H1
           clear H1
           have H':=a_b.mk H
           clear H
           have p270 : 0 ≤ (x80_4 : Int):=of_decide_eq_true (by first|(with_reducible assumption)|assumption)
           have q270 : x80_4 < (l2.length : Int):=of_decide_eq_true (by first|(with_reducible assumption)|assumption)
           obtain ⟨ad270,e270,b_a⟩:=Kd.c_B HR2.out x80_4 p270 q270
           cases e270
           replace b_a:=(HB.out.cell (World.block_lt_of_cell? w _ b_a)).trans b_a
           replace p270:=eq_true p270
           replace q270:=eq_true q270
           have o_0:=a_3.out
           have q_a:=a_Y.out
           have o_1:=a_6.out
           have q_b:=a_7.out
           have o_2:=b_x.out
           have q_d:=b_O.out
           have l_k : wr.cell? ⟨a_0,0,none⟩ = some (.slice Ao17 t252.length co17):=(a_k a_K.out 0).trans rfl
           have m_w:=a_g a_K.out 0
           have o_3:=b_N.out
           have q_e:=b_w.out
           have o_4:=b_P.out
           have q_f:=b_y.out
           have l_l : wr.cell? ⟨b_b,0,none⟩ = some (.int .i64 ((a_p l1 x32_1).f0)):=(a_k a_E.out 0).trans rfl
           have l_m : wr.cell? ⟨b_b,1,none⟩ = some (.int .i64 ((a_p l1 x32_1).f1)):=(a_k a_E.out 1).trans rfl
           have m_x:=a_g a_E.out 0
           have m_y:=a_g a_E.out 1
           go_wp2_with (first|((with_reducible refine a_y (f:=20) rfl ?_);refine a_5 (some 92) rfl rfl Tryd.func20 (by kernel_rfl) rfl #[.agg #[.slice Ao17 t252.length co17],.int .i64 ((a_p l1 x32_1).f0),.int .u32 (rd l2 x80_4)] rfl (by (try simp only [List.map_toArray,List.map_cons,List.map_nil]);first|done|rfl|(simp only [List.length_drop,List.length_take];rfl)) ?_;(with_reducible refine (b_e.calls _ _ t252 ((a_p l1 x32_1).f0) (rd l2 x80_4) t271 t274 _ ?side1 ?side2 ?side3 A98.out).mono ?_);(case side1 => repeat (first|exact (Kd.a_z a_v.out).2.2|(with_reducible refine Kd.a_N ?_ _)|(with_reducible refine Kd.a_O ?_ _)|(with_reducible refine Kd.a_8 ?_)));(case side2 => exact (Kd.a_z a_v.out).2.1);(case side3 => exact b_W.below HTAB_.out (by repeat (first|(with_reducible first|exact HB.out|apply a_d|apply a_c|apply a_e|refine a_a ?_ a_L.out|refine a_a ?_ a_P.out|refine a_a ?_ a_Q.out|refine a_a ?_ b_n.out)|exact HB.out)));rintro e w208 ⟨v272,rfl,ho0,hb⟩;refine ⟨_,rfl,?_⟩;have b_H:=a_b.mk (Kd.b_o ho0 (a_i (by repeat (first|(with_reducible first|exact HB.out|apply a_d|apply a_c|apply a_e|refine a_a ?_ a_L.out|refine a_a ?_ a_P.out|refine a_a ?_ a_Q.out|refine a_a ?_ b_n.out)|exact HB.out))));replace a_v:=a_b.mk (Kd.a_B (rup_ a_v.out) hb);replace a_r:=a_b.mk (Kd.a_B (rup_ a_r.out) hb);replace a_D:=a_b.mk (a_h (bup_ a_D.out) hb);replace a_K:=a_b.mk (a_h (bup_ a_K.out) hb);replace a_I:=a_b.mk (a_h (bup_ a_I.out) hb);replace a_E:=a_b.mk (a_h (bup_ a_E.out) hb);replace HB:=a_b.mk (a_l (by repeat (first|(with_reducible first|exact HB.out|apply a_d|apply a_c|apply a_e|refine a_a ?_ a_L.out|refine a_a ?_ a_P.out|refine a_a ?_ a_Q.out|refine a_a ?_ b_n.out)|exact HB.out)) hb);(try clear hb);(try clear hb2);(try clear hk);(try clear hi);(try clear ho0);have o_5:=a_4.out;have q_g:=a_Z.out;have l_n : w208.cell? ⟨a_X,0,none⟩ = some (.slice Ao19 t255.length co19):=(a_k a_I.out 0).trans rfl;have m_z:=a_g a_I.out 0;have l_o : w208.cell? ⟨b_b,0,none⟩ = some (.int .i64 ((a_p l1 x32_1).f0)):=(a_k a_E.out 0).trans rfl;have l_p : w208.cell? ⟨b_b,1,none⟩ = some (.int .i64 ((a_p l1 x32_1).f1)):=(a_k a_E.out 1).trans rfl;have m_A:=a_g a_E.out 0;have m_B:=a_g a_E.out 1)|((with_reducible refine a_y (f:=18) rfl ?_);refine a_5 (some 107) rfl rfl Tryd.func18 (by kernel_rfl) rfl #[.agg #[.slice Ao19 t255.length co19],.int .i64 ((a_p l1 x32_1).f0)] rfl (by (try simp only [List.map_toArray,List.map_cons,List.map_nil]);first|done|rfl|(simp only [List.length_drop,List.length_take];rfl)) ?_;(with_reducible refine (a_C.calls _ _ t255 ((a_p l1 x32_1).f0) false _ ?side1 ?side2 A100.out).mono ?_);(case side1 => repeat (first|exact (Kd.a_z a_r.out).2.2|(with_reducible refine Kd.a_N ?_ _)|(with_reducible refine Kd.a_O ?_ _)|(with_reducible refine Kd.a_8 ?_)));(case side2 => exact (Kd.a_z a_r.out).2.1);rintro e w212 ⟨rfl,hb⟩;refine ⟨_,rfl,?_⟩;replace a_v:=a_b.mk (Kd.a_B (rup_ a_v.out) hb);replace a_r:=a_b.mk (Kd.a_B (rup_ a_r.out) hb);replace b_H:=a_b.mk (Kd.a_B (rup_ b_H.out) hb);replace a_D:=a_b.mk (a_h (bup_ a_D.out) hb);replace a_K:=a_b.mk (a_h (bup_ a_K.out) hb);replace a_I:=a_b.mk (a_h (bup_ a_I.out) hb);replace a_E:=a_b.mk (a_h (bup_ a_E.out) hb);replace HB:=a_b.mk (a_l (by repeat (first|(with_reducible first|exact HB.out|apply a_d|apply a_c|apply a_e|refine a_a ?_ a_L.out|refine a_a ?_ a_P.out|refine a_a ?_ a_Q.out|refine a_a ?_ b_n.out)|exact HB.out)) hb);(try clear hb);(try clear hb2);(try clear hk);(try clear hi);obtain ⟨q_R,r_e,n_k⟩:=Kd.b_V b_H.out;subst n_k)|(go_at_call 23;(refine (a_j.calls k4 _ _ t271 _ _ ([] : List Int) true _ ?side1 ?side2 ?side3 ?side4 A199.out).mono ?_);(case side1 => repeat (first|exact (Kd.a_z b_H.out).2.2|(with_reducible refine Kd.a_N ?_ _)|(with_reducible refine Kd.a_O ?_ _)|(with_reducible refine Kd.a_8 ?_)));(case side2 => exact (Kd.a_z b_H.out).2.1);(case side3 => exact Kd.f_I _ _);(case side4 => exact Nat.le_refl _);rintro e w' ⟨rfl,⟨nd,rfl⟩⟩))
           go_roundg k4
           case measure => have:=HK1.out;have:=HJ41.out;have:=HJ90.out;have:=HK4.out;omega
           case rel => exact ⟨(wrap64 (x80_4 + 1)),(by first|rfl|(simp;done)|(simp [*];done)),H',⟨by have:=HK1.out;have:=HJ41.out;have:=HJ90.out;have:=HK4.out;omega⟩,⟨by (with_reducible repeat (first|apply Kd.a_T|apply Kd.a_U|apply Kd.a_9));exact a_v.out⟩,⟨by (with_reducible repeat (first|apply Kd.a_T|apply Kd.a_U|apply Kd.a_9));exact a_r.out⟩,⟨by (with_reducible repeat (first|refine a_o ?_ _|refine a_q ?_|refine a_n ?_ _));exact a_D.out⟩,⟨by (with_reducible repeat (first|refine a_o ?_ _|refine a_q ?_|refine a_n ?_ _));exact a_K.out⟩,⟨by (with_reducible repeat (first|refine a_o ?_ _|refine a_q ?_|refine a_n ?_ _));exact a_I.out⟩,⟨by (with_reducible repeat (first|refine a_o ?_ _|refine a_q ?_|refine a_n ?_ _));exact a_E.out⟩,⟨by repeat (first|(with_reducible first|exact HB.out|apply a_d|apply a_c|apply a_e|refine a_a ?_ a_L.out|refine a_a ?_ a_P.out|refine a_a ?_ a_Q.out|refine a_a ?_ b_n.out)|exact HB.out)⟩⟩
          replace c200:=Bool.eq_false_iff.mpr c200
          subst c200
          have H1 : (some false) = some r:=by rw [if_neg (show ¬ (false = true) by decide)] at H;exact H
          clear H
          have H:=H1
          clear H1
          obtain rfl:=Option.some.inj H
          have p270 : 0 ≤ (x80_4 : Int):=of_decide_eq_true (by first|(with_reducible assumption)|assumption)
          have q270 : x80_4 < (l2.length : Int):=of_decide_eq_true (by first|(with_reducible assumption)|assumption)
          obtain ⟨ad270,e270,b_a⟩:=Kd.c_B HR2.out x80_4 p270 q270
          cases e270
          replace b_a:=(HB.out.cell (World.block_lt_of_cell? w _ b_a)).trans b_a
          replace p270:=eq_true p270
          replace q270:=eq_true q270
          have o_6:=a_3.out
          have q_h:=a_Y.out
          have o_7:=a_6.out
          have q_i:=a_7.out
          have o_8:=b_x.out
          have q_j:=b_O.out
          have l_q : wr.cell? ⟨a_0,0,none⟩ = some (.slice Ao17 t252.length co17):=(a_k a_K.out 0).trans rfl
          have m_C:=a_g a_K.out 0
          have o_9:=b_N.out
          have q_k:=b_w.out
          have p_a:=b_P.out
          have q_l:=b_y.out
          have l_r : wr.cell? ⟨b_b,0,none⟩ = some (.int .i64 ((a_p l1 x32_1).f0)):=(a_k a_E.out 0).trans rfl
          have l_s : wr.cell? ⟨b_b,1,none⟩ = some (.int .i64 ((a_p l1 x32_1).f1)):=(a_k a_E.out 1).trans rfl
          have m_D:=a_g a_E.out 0
          have m_E:=a_g a_E.out 1
          go_wp2_with (first|((with_reducible refine a_y (f:=20) rfl ?_);refine a_5 (some 92) rfl rfl Tryd.func20 (by kernel_rfl) rfl #[.agg #[.slice Ao17 t252.length co17],.int .i64 ((a_p l1 x32_1).f0),.int .u32 (rd l2 x80_4)] rfl (by (try simp only [List.map_toArray,List.map_cons,List.map_nil]);first|done|rfl|(simp only [List.length_drop,List.length_take];rfl)) ?_;(with_reducible refine (b_e.calls _ _ t252 ((a_p l1 x32_1).f0) (rd l2 x80_4) t271 t274 _ ?side1 ?side2 ?side3 A98.out).mono ?_);(case side1 => repeat (first|exact (Kd.a_z a_v.out).2.2|(with_reducible refine Kd.a_N ?_ _)|(with_reducible refine Kd.a_O ?_ _)|(with_reducible refine Kd.a_8 ?_)));(case side2 => exact (Kd.a_z a_v.out).2.1);(case side3 => exact b_W.below HTAB_.out (by repeat (first|(with_reducible first|exact HB.out|apply a_d|apply a_c|apply a_e|refine a_a ?_ a_L.out|refine a_a ?_ a_P.out|refine a_a ?_ a_Q.out|refine a_a ?_ b_n.out)|exact HB.out)));rintro e w221 ⟨v272,rfl,ho0,hb⟩;refine ⟨_,rfl,?_⟩;have b_H:=a_b.mk (Kd.b_o ho0 (a_i (by repeat (first|(with_reducible first|exact HB.out|apply a_d|apply a_c|apply a_e|refine a_a ?_ a_L.out|refine a_a ?_ a_P.out|refine a_a ?_ a_Q.out|refine a_a ?_ b_n.out)|exact HB.out))));replace a_v:=a_b.mk (Kd.a_B (rup_ a_v.out) hb);replace a_r:=a_b.mk (Kd.a_B (rup_ a_r.out) hb);replace a_D:=a_b.mk (a_h (bup_ a_D.out) hb);replace a_K:=a_b.mk (a_h (bup_ a_K.out) hb);replace a_I:=a_b.mk (a_h (bup_ a_I.out) hb);replace a_E:=a_b.mk (a_h (bup_ a_E.out) hb);replace HB:=a_b.mk (a_l (by repeat (first|(with_reducible first|exact HB.out|apply a_d|apply a_c|apply a_e|refine a_a ?_ a_L.out|refine a_a ?_ a_P.out|refine a_a ?_ a_Q.out|refine a_a ?_ b_n.out)|exact HB.out)) hb);(try clear hb);(try clear hb2);(try clear hk);(try clear hi);(try clear ho0);have p_b:=a_4.out;have q_m:=a_Z.out;have l_t : w221.cell? ⟨a_X,0,none⟩ = some (.slice Ao19 t255.length co19):=(a_k a_I.out 0).trans rfl;have m_F:=a_g a_I.out 0;have l_u : w221.cell? ⟨b_b,0,none⟩ = some (.int .i64 ((a_p l1 x32_1).f0)):=(a_k a_E.out 0).trans rfl;have l_v : w221.cell? ⟨b_b,1,none⟩ = some (.int .i64 ((a_p l1 x32_1).f1)):=(a_k a_E.out 1).trans rfl;have m_G:=a_g a_E.out 0;have m_H:=a_g a_E.out 1)|((with_reducible refine a_y (f:=18) rfl ?_);refine a_5 (some 107) rfl rfl Tryd.func18 (by kernel_rfl) rfl #[.agg #[.slice Ao19 t255.length co19],.int .i64 ((a_p l1 x32_1).f0)] rfl (by (try simp only [List.map_toArray,List.map_cons,List.map_nil]);first|done|rfl|(simp only [List.length_drop,List.length_take];rfl)) ?_;(with_reducible refine (a_C.calls _ _ t255 ((a_p l1 x32_1).f0) false _ ?side1 ?side2 A100.out).mono ?_);(case side1 => repeat (first|exact (Kd.a_z a_r.out).2.2|(with_reducible refine Kd.a_N ?_ _)|(with_reducible refine Kd.a_O ?_ _)|(with_reducible refine Kd.a_8 ?_)));(case side2 => exact (Kd.a_z a_r.out).2.1);rintro e w225 ⟨rfl,hb⟩;refine ⟨_,rfl,?_⟩;replace a_v:=a_b.mk (Kd.a_B (rup_ a_v.out) hb);replace a_r:=a_b.mk (Kd.a_B (rup_ a_r.out) hb);replace b_H:=a_b.mk (Kd.a_B (rup_ b_H.out) hb);replace a_D:=a_b.mk (a_h (bup_ a_D.out) hb);replace a_K:=a_b.mk (a_h (bup_ a_K.out) hb);replace a_I:=a_b.mk (a_h (bup_ a_I.out) hb);replace a_E:=a_b.mk (a_h (bup_ a_E.out) hb);replace HB:=a_b.mk (a_l (by repeat (first|(with_reducible first|exact HB.out|apply a_d|apply a_c|apply a_e|refine a_a ?_ a_L.out|refine a_a ?_ a_P.out|refine a_a ?_ a_Q.out|refine a_a ?_ b_n.out)|exact HB.out)) hb);(try clear hb);(try clear hb2);(try clear hk);(try clear hi);obtain ⟨q_S,r_f,n_l⟩:=Kd.b_V b_H.out;subst n_l)|(go_at_call 23;(refine (a_j.calls k4 _ _ t271 _ _ ([] : List Int) false _ ?side1 ?side2 ?side3 ?side4 A199.out).mono ?_);(case side1 => repeat (first|exact (Kd.a_z b_H.out).2.2|(with_reducible refine Kd.a_N ?_ _)|(with_reducible refine Kd.a_O ?_ _)|(with_reducible refine Kd.a_8 ?_)));(case side2 => exact (Kd.a_z b_H.out).2.1);(case side3 => exact Kd.f_I _ _);(case side4 => exact Nat.le_refl _);rintro e w' ⟨rfl,⟨nd,rfl⟩⟩))
          go_ret
          exact ⟨by first|rfl|(simp [a_t,a_u] <;> rfl)|(simp [*, a_t,a_u] <;> rfl),by repeat (first|(with_reducible first|exact HB.out|apply a_d|apply a_c|apply a_e|refine a_a ?_ a_L.out|refine a_a ?_ a_P.out|refine a_a ?_ a_Q.out|refine a_a ?_ b_n.out)|exact HB.out)⟩
         subst c101
         have H1 : ((a_1.f (rd l2 x80_4)).bind fun t276 => (if t276 = true then ((a_m.f k4 t255 ((a_p l1 x32_1).f0) (rd l2 x80_4)).bind fun t277 => (if t274 = 0 then ((a_j.f k4 t271 t277).bind fun t280 => (if t280 = true then (a_f.l1 k4 l2 true l1 (l1.length : Int) x32_1 l2 (l2.length : Int) (wrap64 (x80_4 + 1)) t252 t255 ((a_p l1 x32_1).f0) ((a_p l1 x32_1).f1)) else (some false))) else (some false))) else (if t274 = 140 then ((a_j.f k4 t271 ([] : List Int)).bind fun t281 => (if t281 = true then (a_f.l1 k4 l2 true l1 (l1.length : Int) x32_1 l2 (l2.length : Int) (wrap64 (x80_4 + 1)) t252 t255 ((a_p l1 x32_1).f0) ((a_p l1 x32_1).f1)) else (some false))) else (some false)))) = some r:=by rw [if_pos rfl] at H;exact H
         clear H
         have H:=H1
         clear H1
         replace H:=Option.bind_eq_some_iff.mp H
         obtain ⟨t276,A1020,H⟩:=H
         replace H : (if t276 = true then ((a_m.f k4 t255 ((a_p l1 x32_1).f0) (rd l2 x80_4)).bind fun t277 => (if t274 = 0 then ((a_j.f k4 t271 t277).bind fun t280 => (if t280 = true then (a_f.l1 k4 l2 true l1 (l1.length : Int) x32_1 l2 (l2.length : Int) (wrap64 (x80_4 + 1)) t252 t255 ((a_p l1 x32_1).f0) ((a_p l1 x32_1).f1)) else (some false))) else (some false))) else (if t274 = 140 then ((a_j.f k4 t271 ([] : List Int)).bind fun t281 => (if t281 = true then (a_f.l1 k4 l2 true l1 (l1.length : Int) x32_1 l2 (l2.length : Int) (wrap64 (x80_4 + 1)) t252 t255 ((a_p l1 x32_1).f0) ((a_p l1 x32_1).f1)) else (some false))) else (some false))) = some r:=H
         have A102:=a_b.mk A1020
         clear A1020
         by_cases c103 : t276 = true
         rotate_left
         ·replace c103:=Bool.eq_false_iff.mpr c103
          subst c103
          have H1 : (if t274 = 140 then ((a_j.f k4 t271 ([] : List Int)).bind fun t281 => (if t281 = true then (a_f.l1 k4 l2 true l1 (l1.length : Int) x32_1 l2 (l2.length : Int) (wrap64 (x80_4 + 1)) t252 t255 ((a_p l1 x32_1).f0) ((a_p l1 x32_1).f1)) else (some false))) else (some false)) = some r:=by rw [if_neg (show ¬ (false = true) by decide)] at H;exact H
          clear H
          have H:=H1
          clear H1
          by_cases c157 : t274 = 140
          rotate_left
          ·rw [if_neg c157] at H
           have c157b0 : (t274 == 140) = false:=beq_eq_false_iff_ne.mpr c157
           have c157b1 : (t274 != 140) = true:=bne_iff_ne.mpr c157
           obtain rfl:=Option.some.inj H
           have p270 : 0 ≤ (x80_4 : Int):=of_decide_eq_true (by first|(with_reducible assumption)|assumption)
           have q270 : x80_4 < (l2.length : Int):=of_decide_eq_true (by first|(with_reducible assumption)|assumption)
           obtain ⟨ad270,e270,b_a⟩:=Kd.c_B HR2.out x80_4 p270 q270
           cases e270
           replace b_a:=(HB.out.cell (World.block_lt_of_cell? w _ b_a)).trans b_a
           replace p270:=eq_true p270
           replace q270:=eq_true q270
           have o_U:=a_3.out
           have p_4:=a_Y.out
           have o_V:=a_6.out
           have p_5:=a_7.out
           have o_W:=b_x.out
           have p_6:=b_O.out
           have l_e : wr.cell? ⟨a_0,0,none⟩ = some (.slice Ao17 t252.length co17):=(a_k a_K.out 0).trans rfl
           have m_q:=a_g a_K.out 0
           have o_X:=b_N.out
           have p_7:=b_w.out
           have o_Y:=b_P.out
           have p_8:=b_y.out
           have l_f : wr.cell? ⟨b_b,0,none⟩ = some (.int .i64 ((a_p l1 x32_1).f0)):=(a_k a_E.out 0).trans rfl
           have l_g : wr.cell? ⟨b_b,1,none⟩ = some (.int .i64 ((a_p l1 x32_1).f1)):=(a_k a_E.out 1).trans rfl
           have m_r:=a_g a_E.out 0
           have m_s:=a_g a_E.out 1
           go_wp2_with (first|((with_reducible refine a_y (f:=20) rfl ?_);refine a_5 (some 92) rfl rfl Tryd.func20 (by kernel_rfl) rfl #[.agg #[.slice Ao17 t252.length co17],.int .i64 ((a_p l1 x32_1).f0),.int .u32 (rd l2 x80_4)] rfl (by (try simp only [List.map_toArray,List.map_cons,List.map_nil]);first|done|rfl|(simp only [List.length_drop,List.length_take];rfl)) ?_;(with_reducible refine (b_e.calls _ _ t252 ((a_p l1 x32_1).f0) (rd l2 x80_4) t271 t274 _ ?side1 ?side2 ?side3 A98.out).mono ?_);(case side1 => repeat (first|exact (Kd.a_z a_v.out).2.2|(with_reducible refine Kd.a_N ?_ _)|(with_reducible refine Kd.a_O ?_ _)|(with_reducible refine Kd.a_8 ?_)));(case side2 => exact (Kd.a_z a_v.out).2.1);(case side3 => exact b_W.below HTAB_.out (by repeat (first|(with_reducible first|exact HB.out|apply a_d|apply a_c|apply a_e|refine a_a ?_ a_L.out|refine a_a ?_ a_P.out|refine a_a ?_ a_Q.out|refine a_a ?_ b_n.out)|exact HB.out)));rintro e w193 ⟨v272,rfl,ho0,hb⟩;refine ⟨_,rfl,?_⟩;have b_H:=a_b.mk (Kd.b_o ho0 (a_i (by repeat (first|(with_reducible first|exact HB.out|apply a_d|apply a_c|apply a_e|refine a_a ?_ a_L.out|refine a_a ?_ a_P.out|refine a_a ?_ a_Q.out|refine a_a ?_ b_n.out)|exact HB.out))));replace a_v:=a_b.mk (Kd.a_B (rup_ a_v.out) hb);replace a_r:=a_b.mk (Kd.a_B (rup_ a_r.out) hb);replace a_D:=a_b.mk (a_h (bup_ a_D.out) hb);replace a_K:=a_b.mk (a_h (bup_ a_K.out) hb);replace a_I:=a_b.mk (a_h (bup_ a_I.out) hb);replace a_E:=a_b.mk (a_h (bup_ a_E.out) hb);replace HB:=a_b.mk (a_l (by repeat (first|(with_reducible first|exact HB.out|apply a_d|apply a_c|apply a_e|refine a_a ?_ a_L.out|refine a_a ?_ a_P.out|refine a_a ?_ a_Q.out|refine a_a ?_ b_n.out)|exact HB.out)) hb);(try clear hb);(try clear hb2);(try clear hk);(try clear hi);(try clear ho0);have o_Z:=a_4.out;have p_9:=a_Z.out;have l_h : w193.cell? ⟨a_X,0,none⟩ = some (.slice Ao19 t255.length co19):=(a_k a_I.out 0).trans rfl;have m_t:=a_g a_I.out 0;have l_i : w193.cell? ⟨b_b,0,none⟩ = some (.int .i64 ((a_p l1 x32_1).f0)):=(a_k a_E.out 0).trans rfl;have l_j : w193.cell? ⟨b_b,1,none⟩ = some (.int .i64 ((a_p l1 x32_1).f1)):=(a_k a_E.out 1).trans rfl;have m_u:=a_g a_E.out 0;have m_v:=a_g a_E.out 1)|((with_reducible refine a_y (f:=18) rfl ?_);refine a_5 (some 107) rfl rfl Tryd.func18 (by kernel_rfl) rfl #[.agg #[.slice Ao19 t255.length co19],.int .i64 ((a_p l1 x32_1).f0)] rfl (by (try simp only [List.map_toArray,List.map_cons,List.map_nil]);first|done|rfl|(simp only [List.length_drop,List.length_take];rfl)) ?_;(with_reducible refine (a_C.calls _ _ t255 ((a_p l1 x32_1).f0) true _ ?side1 ?side2 A100.out).mono ?_);(case side1 => repeat (first|exact (Kd.a_z a_r.out).2.2|(with_reducible refine Kd.a_N ?_ _)|(with_reducible refine Kd.a_O ?_ _)|(with_reducible refine Kd.a_8 ?_)));(case side2 => exact (Kd.a_z a_r.out).2.1);rintro e w197 ⟨rfl,hb⟩;refine ⟨_,rfl,?_⟩;replace a_v:=a_b.mk (Kd.a_B (rup_ a_v.out) hb);replace a_r:=a_b.mk (Kd.a_B (rup_ a_r.out) hb);replace b_H:=a_b.mk (Kd.a_B (rup_ b_H.out) hb);replace a_D:=a_b.mk (a_h (bup_ a_D.out) hb);replace a_K:=a_b.mk (a_h (bup_ a_K.out) hb);replace a_I:=a_b.mk (a_h (bup_ a_I.out) hb);replace a_E:=a_b.mk (a_h (bup_ a_E.out) hb);replace HB:=a_b.mk (a_l (by repeat (first|(with_reducible first|exact HB.out|apply a_d|apply a_c|apply a_e|refine a_a ?_ a_L.out|refine a_a ?_ a_P.out|refine a_a ?_ a_Q.out|refine a_a ?_ b_n.out)|exact HB.out)) hb);(try clear hb);(try clear hb2);(try clear hk);(try clear hi))|((with_reducible refine a_y (f:=21) rfl ?_);refine a_5 (some 111) rfl rfl Tryd.func21 (by kernel_rfl) rfl #[.int .u32 (rd l2 x80_4)] rfl (by (try simp only [List.map_toArray,List.map_cons,List.map_nil]);first|done|rfl|(simp only [List.length_drop,List.length_take];rfl)) ?_;(with_reducible refine (a_1.calls (rd l2 x80_4) false _ A102.out).mono ?_);rintro e w' ⟨rfl,⟨nd,rfl⟩⟩;refine ⟨_,rfl,?_⟩))
           go_ret
           exact ⟨by first|rfl|(simp [a_t,a_u] <;> rfl)|(simp [*, a_t,a_u] <;> rfl),by repeat (first|(with_reducible first|exact HB.out|apply a_d|apply a_c|apply a_e|refine a_a ?_ a_L.out|refine a_a ?_ a_P.out|refine a_a ?_ a_Q.out|refine a_a ?_ b_n.out)|exact HB.out)⟩
          rw [if_pos c157] at H
          have c157b0 : (t274 == 140) = true:=beq_iff_eq.mpr c157
          have c157b1 : (t274 != 140) = false:=bne_eq_false_iff_eq.mpr c157
          clear c157
          replace H:=Option.bind_eq_some_iff.mp H
          obtain ⟨t281,A1580,H⟩:=H
          replace H : (if t281 = true then (a_f.l1 k4 l2 true l1 (l1.length : Int) x32_1 l2 (l2.length : Int) (wrap64 (x80_4 + 1)) t252 t255 ((a_p l1 x32_1).f0) ((a_p l1 x32_1).f1)) else (some false)) = some r:=H
          have A158:=a_b.mk A1580
          clear A1580
          by_cases c159 : t281 = true
          ·subst c159
           have H1 : (a_f.l1 k4 l2 true l1 (l1.length : Int) x32_1 l2 (l2.length : Int) (wrap64 (x80_4 + 1)) t252 t255 ((a_p l1 x32_1).f0) ((a_p l1 x32_1).f1)) = some r:=by rw [if_pos rfl] at H;exact H
           clear H
           have H:=H1
           clear H1
           have H':=a_b.mk H
           clear H
           have p270 : 0 ≤ (x80_4 : Int):=of_decide_eq_true (by first|(with_reducible assumption)|assumption)
           have q270 : x80_4 < (l2.length : Int):=of_decide_eq_true (by first|(with_reducible assumption)|assumption)
           obtain ⟨ad270,e270,b_a⟩:=Kd.c_B HR2.out x80_4 p270 q270
           cases e270
           replace b_a:=(HB.out.cell (World.block_lt_of_cell? w _ b_a)).trans b_a
           replace p270:=eq_true p270
           replace q270:=eq_true q270
           have o_I:=a_3.out
           have p_S:=a_Y.out
           have o_J:=a_6.out
           have p_T:=a_7.out
           have o_K:=b_x.out
           have p_U:=b_O.out
           have k_1 : wr.cell? ⟨a_0,0,none⟩ = some (.slice Ao17 t252.length co17):=(a_k a_K.out 0).trans rfl
           have m_e:=a_g a_K.out 0
           have o_L:=b_N.out
           have p_V:=b_w.out
           have o_M:=b_P.out
           have p_W:=b_y.out
           have k_2 : wr.cell? ⟨b_b,0,none⟩ = some (.int .i64 ((a_p l1 x32_1).f0)):=(a_k a_E.out 0).trans rfl
           have k_3 : wr.cell? ⟨b_b,1,none⟩ = some (.int .i64 ((a_p l1 x32_1).f1)):=(a_k a_E.out 1).trans rfl
           have m_f:=a_g a_E.out 0
           have m_g:=a_g a_E.out 1
           go_wp2_with (first|((with_reducible refine a_y (f:=20) rfl ?_);refine a_5 (some 92) rfl rfl Tryd.func20 (by kernel_rfl) rfl #[.agg #[.slice Ao17 t252.length co17],.int .i64 ((a_p l1 x32_1).f0),.int .u32 (rd l2 x80_4)] rfl (by (try simp only [List.map_toArray,List.map_cons,List.map_nil]);first|done|rfl|(simp only [List.length_drop,List.length_take];rfl)) ?_;(with_reducible refine (b_e.calls _ _ t252 ((a_p l1 x32_1).f0) (rd l2 x80_4) t271 t274 _ ?side1 ?side2 ?side3 A98.out).mono ?_);(case side1 => repeat (first|exact (Kd.a_z a_v.out).2.2|(with_reducible refine Kd.a_N ?_ _)|(with_reducible refine Kd.a_O ?_ _)|(with_reducible refine Kd.a_8 ?_)));(case side2 => exact (Kd.a_z a_v.out).2.1);(case side3 => exact b_W.below HTAB_.out (by repeat (first|(with_reducible first|exact HB.out|apply a_d|apply a_c|apply a_e|refine a_a ?_ a_L.out|refine a_a ?_ a_P.out|refine a_a ?_ a_Q.out|refine a_a ?_ b_n.out)|exact HB.out)));rintro e w167 ⟨v272,rfl,ho0,hb⟩;refine ⟨_,rfl,?_⟩;have b_H:=a_b.mk (Kd.b_o ho0 (a_i (by repeat (first|(with_reducible first|exact HB.out|apply a_d|apply a_c|apply a_e|refine a_a ?_ a_L.out|refine a_a ?_ a_P.out|refine a_a ?_ a_Q.out|refine a_a ?_ b_n.out)|exact HB.out))));replace a_v:=a_b.mk (Kd.a_B (rup_ a_v.out) hb);replace a_r:=a_b.mk (Kd.a_B (rup_ a_r.out) hb);replace a_D:=a_b.mk (a_h (bup_ a_D.out) hb);replace a_K:=a_b.mk (a_h (bup_ a_K.out) hb);replace a_I:=a_b.mk (a_h (bup_ a_I.out) hb);replace a_E:=a_b.mk (a_h (bup_ a_E.out) hb);replace HB:=a_b.mk (a_l (by repeat (first|(with_reducible first|exact HB.out|apply a_d|apply a_c|apply a_e|refine a_a ?_ a_L.out|refine a_a ?_ a_P.out|refine a_a ?_ a_Q.out|refine a_a ?_ b_n.out)|exact HB.out)) hb);(try clear hb);(try clear hb2);(try clear hk);(try clear hi);(try clear ho0);have o_N:=a_4.out;have p_X:=a_Z.out;have k_4 : w167.cell? ⟨a_X,0,none⟩ = some (.slice Ao19 t255.length co19):=(a_k a_I.out 0).trans rfl;have m_h:=a_g a_I.out 0;have k_5 : w167.cell? ⟨b_b,0,none⟩ = some (.int .i64 ((a_p l1 x32_1).f0)):=(a_k a_E.out 0).trans rfl;have k_6 : w167.cell? ⟨b_b,1,none⟩ = some (.int .i64 ((a_p l1 x32_1).f1)):=(a_k a_E.out 1).trans rfl;have m_i:=a_g a_E.out 0;have m_j:=a_g a_E.out 1)|((with_reducible refine a_y (f:=18) rfl ?_);refine a_5 (some 107) rfl rfl Tryd.func18 (by kernel_rfl) rfl #[.agg #[.slice Ao19 t255.length co19],.int .i64 ((a_p l1 x32_1).f0)] rfl (by (try simp only [List.map_toArray,List.map_cons,List.map_nil]);first|done|rfl|(simp only [List.length_drop,List.length_take];rfl)) ?_;(with_reducible refine (a_C.calls _ _ t255 ((a_p l1 x32_1).f0) true _ ?side1 ?side2 A100.out).mono ?_);(case side1 => repeat (first|exact (Kd.a_z a_r.out).2.2|(with_reducible refine Kd.a_N ?_ _)|(with_reducible refine Kd.a_O ?_ _)|(with_reducible refine Kd.a_8 ?_)));(case side2 => exact (Kd.a_z a_r.out).2.1);rintro e w171 ⟨rfl,hb⟩;refine ⟨_,rfl,?_⟩;replace a_v:=a_b.mk (Kd.a_B (rup_ a_v.out) hb);replace a_r:=a_b.mk (Kd.a_B (rup_ a_r.out) hb);replace b_H:=a_b.mk (Kd.a_B (rup_ b_H.out) hb);replace a_D:=a_b.mk (a_h (bup_ a_D.out) hb);replace a_K:=a_b.mk (a_h (bup_ a_K.out) hb);replace a_I:=a_b.mk (a_h (bup_ a_I.out) hb);replace a_E:=a_b.mk (a_h (bup_ a_E.out) hb);replace HB:=a_b.mk (a_l (by repeat (first|(with_reducible first|exact HB.out|apply a_d|apply a_c|apply a_e|refine a_a ?_ a_L.out|refine a_a ?_ a_P.out|refine a_a ?_ a_Q.out|refine a_a ?_ b_n.out)|exact HB.out)) hb);(try clear hb);(try clear hb2);(try clear hk);(try clear hi))|((with_reducible refine a_y (f:=21) rfl ?_);refine a_5 (some 111) rfl rfl Tryd.func21 (by kernel_rfl) rfl #[.int .u32 (rd l2 x80_4)] rfl (by (try simp only [List.map_toArray,List.map_cons,List.map_nil]);first|done|rfl|(simp only [List.length_drop,List.length_take];rfl)) ?_;(with_reducible refine (a_1.calls (rd l2 x80_4) false _ A102.out).mono ?_);rintro e w' ⟨rfl,⟨nd,rfl⟩⟩;refine ⟨_,rfl,?_⟩;obtain ⟨q_P,r_c,n_i⟩:=Kd.b_V b_H.out;subst n_i)|(go_at_call 23;(refine (a_j.calls k4 _ _ t271 _ _ ([] : List Int) true _ ?side1 ?side2 ?side3 ?side4 A158.out).mono ?_);(case side1 => repeat (first|exact (Kd.a_z b_H.out).2.2|(with_reducible refine Kd.a_N ?_ _)|(with_reducible refine Kd.a_O ?_ _)|(with_reducible refine Kd.a_8 ?_)));(case side2 => exact (Kd.a_z b_H.out).2.1);(case side3 => exact Kd.f_I _ _);(case side4 => exact Nat.le_refl _);rintro e w' ⟨rfl,⟨nd,rfl⟩⟩))
           go_roundg k4
           case measure => have:=HK1.out;have:=HJ41.out;have:=HJ90.out;have:=HK4.out;omega
           case rel => exact ⟨(wrap64 (x80_4 + 1)),(by first|rfl|(simp;done)|(simp [*];done)),H',⟨by have:=HK1.out;have:=HJ41.out;have:=HJ90.out;have:=HK4.out;omega⟩,⟨by (with_reducible repeat (first|apply Kd.a_T|apply Kd.a_U|apply Kd.a_9));exact a_v.out⟩,⟨by (with_reducible repeat (first|apply Kd.a_T|apply Kd.a_U|apply Kd.a_9));exact a_r.out⟩,⟨by (with_reducible repeat (first|refine a_o ?_ _|refine a_q ?_|refine a_n ?_ _));exact a_D.out⟩,⟨by (with_reducible repeat (first|refine a_o ?_ _|refine a_q ?_|refine a_n ?_ _));exact a_K.out⟩,⟨by (with_reducible repeat (first|refine a_o ?_ _|refine a_q ?_|refine a_n ?_ _));exact a_I.out⟩,⟨by (with_reducible repeat (first|refine a_o ?_ _|refine a_q ?_|refine a_n ?_ _));exact a_E.out⟩,⟨by repeat (first|(with_reducible first|exact HB.out|apply a_d|apply a_c|apply a_e|refine a_a ?_ a_L.out|refine a_a ?_ a_P.out|refine a_a ?_ a_Q.out|refine a_a ?_ b_n.out)|exact HB.out)⟩⟩
          replace c159:=Bool.eq_false_iff.mpr c159
          subst c159
          have H1 : (some false) = some r:=by rw [if_neg (show ¬ (false = true) by decide)] at H;exact H
          clear H
          have H:=H1
          clear H1
          obtain rfl:=Option.some.inj H
          have p270 : 0 ≤ (x80_4 : Int):=of_decide_eq_true (by first|(with_reducible assumption)|assumption)
          have q270 : x80_4 < (l2.length : Int):=of_decide_eq_true (by first|(with_reducible assumption)|assumption)
          obtain ⟨ad270,e270,b_a⟩:=Kd.c_B HR2.out x80_4 p270 q270
          cases e270
          replace b_a:=(HB.out.cell (World.block_lt_of_cell? w _ b_a)).trans b_a
          replace p270:=eq_true p270
          replace q270:=eq_true q270
          have o_O:=a_3.out
          have p_Y:=a_Y.out
          have o_P:=a_6.out
          have p_Z:=a_7.out
          have o_Q:=b_x.out
          have p_0:=b_O.out
          have k_7 : wr.cell? ⟨a_0,0,none⟩ = some (.slice Ao17 t252.length co17):=(a_k a_K.out 0).trans rfl
          have m_k:=a_g a_K.out 0
          have o_R:=b_N.out
          have p_1:=b_w.out
          have o_S:=b_P.out
          have p_2:=b_y.out
          have k_8 : wr.cell? ⟨b_b,0,none⟩ = some (.int .i64 ((a_p l1 x32_1).f0)):=(a_k a_E.out 0).trans rfl
          have k_9 : wr.cell? ⟨b_b,1,none⟩ = some (.int .i64 ((a_p l1 x32_1).f1)):=(a_k a_E.out 1).trans rfl
          have m_l:=a_g a_E.out 0
          have m_m:=a_g a_E.out 1
          go_wp2_with (first|((with_reducible refine a_y (f:=20) rfl ?_);refine a_5 (some 92) rfl rfl Tryd.func20 (by kernel_rfl) rfl #[.agg #[.slice Ao17 t252.length co17],.int .i64 ((a_p l1 x32_1).f0),.int .u32 (rd l2 x80_4)] rfl (by (try simp only [List.map_toArray,List.map_cons,List.map_nil]);first|done|rfl|(simp only [List.length_drop,List.length_take];rfl)) ?_;(with_reducible refine (b_e.calls _ _ t252 ((a_p l1 x32_1).f0) (rd l2 x80_4) t271 t274 _ ?side1 ?side2 ?side3 A98.out).mono ?_);(case side1 => repeat (first|exact (Kd.a_z a_v.out).2.2|(with_reducible refine Kd.a_N ?_ _)|(with_reducible refine Kd.a_O ?_ _)|(with_reducible refine Kd.a_8 ?_)));(case side2 => exact (Kd.a_z a_v.out).2.1);(case side3 => exact b_W.below HTAB_.out (by repeat (first|(with_reducible first|exact HB.out|apply a_d|apply a_c|apply a_e|refine a_a ?_ a_L.out|refine a_a ?_ a_P.out|refine a_a ?_ a_Q.out|refine a_a ?_ b_n.out)|exact HB.out)));rintro e w180 ⟨v272,rfl,ho0,hb⟩;refine ⟨_,rfl,?_⟩;have b_H:=a_b.mk (Kd.b_o ho0 (a_i (by repeat (first|(with_reducible first|exact HB.out|apply a_d|apply a_c|apply a_e|refine a_a ?_ a_L.out|refine a_a ?_ a_P.out|refine a_a ?_ a_Q.out|refine a_a ?_ b_n.out)|exact HB.out))));replace a_v:=a_b.mk (Kd.a_B (rup_ a_v.out) hb);replace a_r:=a_b.mk (Kd.a_B (rup_ a_r.out) hb);replace a_D:=a_b.mk (a_h (bup_ a_D.out) hb);replace a_K:=a_b.mk (a_h (bup_ a_K.out) hb);replace a_I:=a_b.mk (a_h (bup_ a_I.out) hb);replace a_E:=a_b.mk (a_h (bup_ a_E.out) hb);replace HB:=a_b.mk (a_l (by repeat (first|(with_reducible first|exact HB.out|apply a_d|apply a_c|apply a_e|refine a_a ?_ a_L.out|refine a_a ?_ a_P.out|refine a_a ?_ a_Q.out|refine a_a ?_ b_n.out)|exact HB.out)) hb);(try clear hb);(try clear hb2);(try clear hk);(try clear hi);(try clear ho0);have o_T:=a_4.out;have p_3:=a_Z.out;have l_a : w180.cell? ⟨a_X,0,none⟩ = some (.slice Ao19 t255.length co19):=(a_k a_I.out 0).trans rfl;have m_n:=a_g a_I.out 0;have l_b : w180.cell? ⟨b_b,0,none⟩ = some (.int .i64 ((a_p l1 x32_1).f0)):=(a_k a_E.out 0).trans rfl;have l_d : w180.cell? ⟨b_b,1,none⟩ = some (.int .i64 ((a_p l1 x32_1).f1)):=(a_k a_E.out 1).trans rfl;have m_o:=a_g a_E.out 0;have m_p:=a_g a_E.out 1)|((with_reducible refine a_y (f:=18) rfl ?_);refine a_5 (some 107) rfl rfl Tryd.func18 (by kernel_rfl) rfl #[.agg #[.slice Ao19 t255.length co19],.int .i64 ((a_p l1 x32_1).f0)] rfl (by (try simp only [List.map_toArray,List.map_cons,List.map_nil]);first|done|rfl|(simp only [List.length_drop,List.length_take];rfl)) ?_;(with_reducible refine (a_C.calls _ _ t255 ((a_p l1 x32_1).f0) true _ ?side1 ?side2 A100.out).mono ?_);(case side1 => repeat (first|exact (Kd.a_z a_r.out).2.2|(with_reducible refine Kd.a_N ?_ _)|(with_reducible refine Kd.a_O ?_ _)|(with_reducible refine Kd.a_8 ?_)));(case side2 => exact (Kd.a_z a_r.out).2.1);rintro e w184 ⟨rfl,hb⟩;refine ⟨_,rfl,?_⟩;replace a_v:=a_b.mk (Kd.a_B (rup_ a_v.out) hb);replace a_r:=a_b.mk (Kd.a_B (rup_ a_r.out) hb);replace b_H:=a_b.mk (Kd.a_B (rup_ b_H.out) hb);replace a_D:=a_b.mk (a_h (bup_ a_D.out) hb);replace a_K:=a_b.mk (a_h (bup_ a_K.out) hb);replace a_I:=a_b.mk (a_h (bup_ a_I.out) hb);replace a_E:=a_b.mk (a_h (bup_ a_E.out) hb);replace HB:=a_b.mk (a_l (by repeat (first|(with_reducible first|exact HB.out|apply a_d|apply a_c|apply a_e|refine a_a ?_ a_L.out|refine a_a ?_ a_P.out|refine a_a ?_ a_Q.out|refine a_a ?_ b_n.out)|exact HB.out)) hb);(try clear hb);(try clear hb2);(try clear hk);(try clear hi))|((with_reducible refine a_y (f:=21) rfl ?_);refine a_5 (some 111) rfl rfl Tryd.func21 (by kernel_rfl) rfl #[.int .u32 (rd l2 x80_4)] rfl (by (try simp only [List.map_toArray,List.map_cons,List.map_nil]);first|done|rfl|(simp only [List.length_drop,List.length_take];rfl)) ?_;(with_reducible refine (a_1.calls (rd l2 x80_4) false _ A102.out).mono ?_);rintro e w' ⟨rfl,⟨nd,rfl⟩⟩;refine ⟨_,rfl,?_⟩;obtain ⟨q_Q,r_d,n_j⟩:=Kd.b_V b_H.out;subst n_j)|(go_at_call 23;(refine (a_j.calls k4 _ _ t271 _ _ ([] : List Int) false _ ?side1 ?side2 ?side3 ?side4 A158.out).mono ?_);(case side1 => repeat (first|exact (Kd.a_z b_H.out).2.2|(with_reducible refine Kd.a_N ?_ _)|(with_reducible refine Kd.a_O ?_ _)|(with_reducible refine Kd.a_8 ?_)));(case side2 => exact (Kd.a_z b_H.out).2.1);(case side3 => exact Kd.f_I _ _);(case side4 => exact Nat.le_refl _);rintro e w' ⟨rfl,⟨nd,rfl⟩⟩))
          go_ret
          exact ⟨by first|rfl|(simp [a_t,a_u] <;> rfl)|(simp [*, a_t,a_u] <;> rfl),by repeat (first|(with_reducible first|exact HB.out|apply a_d|apply a_c|apply a_e|refine a_a ?_ a_L.out|refine a_a ?_ a_P.out|refine a_a ?_ a_Q.out|refine a_a ?_ b_n.out)|exact HB.out)⟩
         subst c103
         have H1 : ((a_m.f k4 t255 ((a_p l1 x32_1).f0) (rd l2 x80_4)).bind fun t277 => (if t274 = 0 then ((a_j.f k4 t271 t277).bind fun t280 => (if t280 = true then (a_f.l1 k4 l2 true l1 (l1.length : Int) x32_1 l2 (l2.length : Int) (wrap64 (x80_4 + 1)) t252 t255 ((a_p l1 x32_1).f0) ((a_p l1 x32_1).f1)) else (some false))) else (some false))) = some r:=by rw [if_pos rfl] at H;exact H
         clear H
         have H:=H1
         clear H1
         replace H:=Option.bind_eq_some_iff.mp H
         obtain ⟨t277,A1040,H⟩:=H
         replace H : (if t274 = 0 then ((a_j.f k4 t271 t277).bind fun t280 => (if t280 = true then (a_f.l1 k4 l2 true l1 (l1.length : Int) x32_1 l2 (l2.length : Int) (wrap64 (x80_4 + 1)) t252 t255 ((a_p l1 x32_1).f0) ((a_p l1 x32_1).f1)) else (some false))) else (some false)) = some r:=H
         have A104:=a_b.mk A1040
         clear A1040
         by_cases c105 : t274 = 0
         rotate_left
         ·rw [if_neg c105] at H
          have c105b0 : (t274 == 0) = false:=beq_eq_false_iff_ne.mpr c105
          have c105b1 : (t274 != 0) = true:=bne_iff_ne.mpr c105
          obtain rfl:=Option.some.inj H
          have p270 : 0 ≤ (x80_4 : Int):=of_decide_eq_true (by first|(with_reducible assumption)|assumption)
          have q270 : x80_4 < (l2.length : Int):=of_decide_eq_true (by first|(with_reducible assumption)|assumption)
          obtain ⟨ad270,e270,b_a⟩:=Kd.c_B HR2.out x80_4 p270 q270
          cases e270
          replace b_a:=(HB.out.cell (World.block_lt_of_cell? w _ b_a)).trans b_a
          replace p270:=eq_true p270
          replace q270:=eq_true q270
          have o_C:=a_3.out
          have p_M:=a_Y.out
          have o_D:=a_6.out
          have p_N:=a_7.out
          have o_E:=b_x.out
          have p_O:=b_O.out
          have k_S : wr.cell? ⟨a_0,0,none⟩ = some (.slice Ao17 t252.length co17):=(a_k a_K.out 0).trans rfl
          have l_5:=a_g a_K.out 0
          have o_F:=b_N.out
          have p_P:=b_w.out
          have o_G:=b_P.out
          have p_Q:=b_y.out
          have k_T : wr.cell? ⟨b_b,0,none⟩ = some (.int .i64 ((a_p l1 x32_1).f0)):=(a_k a_E.out 0).trans rfl
          have k_U : wr.cell? ⟨b_b,1,none⟩ = some (.int .i64 ((a_p l1 x32_1).f1)):=(a_k a_E.out 1).trans rfl
          have l_6:=a_g a_E.out 0
          have l_7:=a_g a_E.out 1
          go_wp2_with (first|((with_reducible refine a_y (f:=20) rfl ?_);refine a_5 (some 92) rfl rfl Tryd.func20 (by kernel_rfl) rfl #[.agg #[.slice Ao17 t252.length co17],.int .i64 ((a_p l1 x32_1).f0),.int .u32 (rd l2 x80_4)] rfl (by (try simp only [List.map_toArray,List.map_cons,List.map_nil]);first|done|rfl|(simp only [List.length_drop,List.length_take];rfl)) ?_;(with_reducible refine (b_e.calls _ _ t252 ((a_p l1 x32_1).f0) (rd l2 x80_4) t271 t274 _ ?side1 ?side2 ?side3 A98.out).mono ?_);(case side1 => repeat (first|exact (Kd.a_z a_v.out).2.2|(with_reducible refine Kd.a_N ?_ _)|(with_reducible refine Kd.a_O ?_ _)|(with_reducible refine Kd.a_8 ?_)));(case side2 => exact (Kd.a_z a_v.out).2.1);(case side3 => exact b_W.below HTAB_.out (by repeat (first|(with_reducible first|exact HB.out|apply a_d|apply a_c|apply a_e|refine a_a ?_ a_L.out|refine a_a ?_ a_P.out|refine a_a ?_ a_Q.out|refine a_a ?_ b_n.out)|exact HB.out)));rintro e w149 ⟨v272,rfl,ho0,hb⟩;refine ⟨_,rfl,?_⟩;have b_H:=a_b.mk (Kd.b_o ho0 (a_i (by repeat (first|(with_reducible first|exact HB.out|apply a_d|apply a_c|apply a_e|refine a_a ?_ a_L.out|refine a_a ?_ a_P.out|refine a_a ?_ a_Q.out|refine a_a ?_ b_n.out)|exact HB.out))));replace a_v:=a_b.mk (Kd.a_B (rup_ a_v.out) hb);replace a_r:=a_b.mk (Kd.a_B (rup_ a_r.out) hb);replace a_D:=a_b.mk (a_h (bup_ a_D.out) hb);replace a_K:=a_b.mk (a_h (bup_ a_K.out) hb);replace a_I:=a_b.mk (a_h (bup_ a_I.out) hb);replace a_E:=a_b.mk (a_h (bup_ a_E.out) hb);replace HB:=a_b.mk (a_l (by repeat (first|(with_reducible first|exact HB.out|apply a_d|apply a_c|apply a_e|refine a_a ?_ a_L.out|refine a_a ?_ a_P.out|refine a_a ?_ a_Q.out|refine a_a ?_ b_n.out)|exact HB.out)) hb);(try clear hb);(try clear hb2);(try clear hk);(try clear hi);(try clear ho0);have o_H:=a_4.out;have p_R:=a_Z.out;have k_V : w149.cell? ⟨a_X,0,none⟩ = some (.slice Ao19 t255.length co19):=(a_k a_I.out 0).trans rfl;have l_8:=a_g a_I.out 0;have k_W : w149.cell? ⟨b_b,0,none⟩ = some (.int .i64 ((a_p l1 x32_1).f0)):=(a_k a_E.out 0).trans rfl;have k_X : w149.cell? ⟨b_b,1,none⟩ = some (.int .i64 ((a_p l1 x32_1).f1)):=(a_k a_E.out 1).trans rfl;have l_9:=a_g a_E.out 0;have m_a:=a_g a_E.out 1)|((with_reducible refine a_y (f:=18) rfl ?_);refine a_5 (some 107) rfl rfl Tryd.func18 (by kernel_rfl) rfl #[.agg #[.slice Ao19 t255.length co19],.int .i64 ((a_p l1 x32_1).f0)] rfl (by (try simp only [List.map_toArray,List.map_cons,List.map_nil]);first|done|rfl|(simp only [List.length_drop,List.length_take];rfl)) ?_;(with_reducible refine (a_C.calls _ _ t255 ((a_p l1 x32_1).f0) true _ ?side1 ?side2 A100.out).mono ?_);(case side1 => repeat (first|exact (Kd.a_z a_r.out).2.2|(with_reducible refine Kd.a_N ?_ _)|(with_reducible refine Kd.a_O ?_ _)|(with_reducible refine Kd.a_8 ?_)));(case side2 => exact (Kd.a_z a_r.out).2.1);rintro e w153 ⟨rfl,hb⟩;refine ⟨_,rfl,?_⟩;replace a_v:=a_b.mk (Kd.a_B (rup_ a_v.out) hb);replace a_r:=a_b.mk (Kd.a_B (rup_ a_r.out) hb);replace b_H:=a_b.mk (Kd.a_B (rup_ b_H.out) hb);replace a_D:=a_b.mk (a_h (bup_ a_D.out) hb);replace a_K:=a_b.mk (a_h (bup_ a_K.out) hb);replace a_I:=a_b.mk (a_h (bup_ a_I.out) hb);replace a_E:=a_b.mk (a_h (bup_ a_E.out) hb);replace HB:=a_b.mk (a_l (by repeat (first|(with_reducible first|exact HB.out|apply a_d|apply a_c|apply a_e|refine a_a ?_ a_L.out|refine a_a ?_ a_P.out|refine a_a ?_ a_Q.out|refine a_a ?_ b_n.out)|exact HB.out)) hb);(try clear hb);(try clear hb2);(try clear hk);(try clear hi))|((with_reducible refine a_y (f:=21) rfl ?_);refine a_5 (some 111) rfl rfl Tryd.func21 (by kernel_rfl) rfl #[.int .u32 (rd l2 x80_4)] rfl (by (try simp only [List.map_toArray,List.map_cons,List.map_nil]);first|done|rfl|(simp only [List.length_drop,List.length_take];rfl)) ?_;(with_reducible refine (a_1.calls (rd l2 x80_4) true _ A102.out).mono ?_);rintro e w' ⟨rfl,⟨nd,rfl⟩⟩;refine ⟨_,rfl,?_⟩;have k_Y : w153.cell? ⟨a_X,0,none⟩ = some (.slice Ao19 t255.length co19):=(a_k a_I.out 0).trans rfl;have m_b:=a_g a_I.out 0;have k_Z : w153.cell? ⟨b_b,0,none⟩ = some (.int .i64 ((a_p l1 x32_1).f0)):=(a_k a_E.out 0).trans rfl;have k_0 : w153.cell? ⟨b_b,1,none⟩ = some (.int .i64 ((a_p l1 x32_1).f1)):=(a_k a_E.out 1).trans rfl;have m_c:=a_g a_E.out 0;have m_d:=a_g a_E.out 1)|((with_reducible refine a_y (f:=22) rfl ?_);refine a_5 (some 99) rfl rfl Tryd.func22 (by kernel_rfl) rfl #[.agg #[.slice Ao19 t255.length co19],.int .i64 ((a_p l1 x32_1).f0),.int .u32 (rd l2 x80_4)] rfl (by (try simp only [List.map_toArray,List.map_cons,List.map_nil]);first|done|rfl|(simp only [List.length_drop,List.length_take];rfl)) ?_;(with_reducible refine (a_m.calls k4 _ _ t255 ((a_p l1 x32_1).f0) (rd l2 x80_4) t277 _ ?side1 ?side2 A104.out).mono ?_);(case side1 => repeat (first|exact (Kd.a_z a_r.out).2.2|(with_reducible refine Kd.a_N ?_ _)|(with_reducible refine Kd.a_O ?_ _)|(with_reducible refine Kd.a_8 ?_)));(case side2 => exact (Kd.a_z a_r.out).2.1);rintro e w156 ⟨v278,rfl,ho0,hb⟩;refine ⟨_,rfl,?_⟩;have f_o:=a_b.mk (Kd.b_o (Kd.e_g ho0 (Kd.R_lt (rup_ b_H.out))) (a_i (by repeat (first|(with_reducible first|exact HB.out|apply a_d|apply a_c|apply a_e|refine a_a ?_ a_L.out|refine a_a ?_ a_P.out|refine a_a ?_ a_Q.out|refine a_a ?_ b_n.out)|exact HB.out))));replace a_v:=a_b.mk (Kd.a_B (rup_ a_v.out) hb);replace a_r:=a_b.mk (Kd.a_B (rup_ a_r.out) hb);replace b_H:=a_b.mk (Kd.d_a (rup_ b_H.out) (Kd.e_e ho0) hb);replace a_D:=a_b.mk (a_h (bup_ a_D.out) hb);replace a_K:=a_b.mk (a_h (bup_ a_K.out) hb);replace a_I:=a_b.mk (a_h (bup_ a_I.out) hb);replace a_E:=a_b.mk (a_h (bup_ a_E.out) hb);replace HB:=a_b.mk (a_l (by repeat (first|(with_reducible first|exact HB.out|apply a_d|apply a_c|apply a_e|refine a_a ?_ a_L.out|refine a_a ?_ a_P.out|refine a_a ?_ a_Q.out|refine a_a ?_ b_n.out)|exact HB.out)) hb);(try clear hb);(try clear hb2);(try clear hk);(try clear hi);(try clear ho0)))
          go_ret
          exact ⟨by first|rfl|(simp [a_t,a_u] <;> rfl)|(simp [*, a_t,a_u] <;> rfl),by repeat (first|(with_reducible first|exact HB.out|apply a_d|apply a_c|apply a_e|refine a_a ?_ a_L.out|refine a_a ?_ a_P.out|refine a_a ?_ a_Q.out|refine a_a ?_ b_n.out)|exact HB.out)⟩
         rw [if_pos c105] at H
         have c105b0 : (t274 == 0) = true:=beq_iff_eq.mpr c105
         have c105b1 : (t274 != 0) = false:=bne_eq_false_iff_eq.mpr c105
         clear c105
         replace H:=Option.bind_eq_some_iff.mp H
         obtain ⟨t280,A1060,H⟩:=H
         replace H : (if t280 = true then (a_f.l1 k4 l2 true l1 (l1.length : Int) x32_1 l2 (l2.length : Int) (wrap64 (x80_4 + 1)) t252 t255 ((a_p l1 x32_1).f0) ((a_p l1 x32_1).f1)) else (some false)) = some r:=H
         have A106:=a_b.mk A1060
         clear A1060
         by_cases c107 : t280 = true
         ·subst c107
          have H1 : (a_f.l1 k4 l2 true l1 (l1.length : Int) x32_1 l2 (l2.length : Int) (wrap64 (x80_4 + 1)) t252 t255 ((a_p l1 x32_1).f0) ((a_p l1 x32_1).f1)) = some r:=by rw [if_pos rfl] at H;exact H
          clear H
          have H:=H1
          clear H1
          have H':=a_b.mk H
          clear H
          have p270 : 0 ≤ (x80_4 : Int):=of_decide_eq_true (by first|(with_reducible assumption)|assumption)
          have q270 : x80_4 < (l2.length : Int):=of_decide_eq_true (by first|(with_reducible assumption)|assumption)
          obtain ⟨ad270,e270,b_a⟩:=Kd.c_B HR2.out x80_4 p270 q270
          cases e270
          replace b_a:=(HB.out.cell (World.block_lt_of_cell? w _ b_a)).trans b_a
          replace p270:=eq_true p270
          replace q270:=eq_true q270
          have o_q:=a_3.out
          have p_A:=a_Y.out
          have o_r:=a_6.out
          have p_B:=a_7.out
          have o_s:=b_x.out
          have p_C:=b_O.out
          have k_A : wr.cell? ⟨a_0,0,none⟩ = some (.slice Ao17 t252.length co17):=(a_k a_K.out 0).trans rfl
          have l_N:=a_g a_K.out 0
          have o_t:=b_N.out
          have p_D:=b_w.out
          have o_u:=b_P.out
          have p_E:=b_y.out
          have k_B : wr.cell? ⟨b_b,0,none⟩ = some (.int .i64 ((a_p l1 x32_1).f0)):=(a_k a_E.out 0).trans rfl
          have k_C : wr.cell? ⟨b_b,1,none⟩ = some (.int .i64 ((a_p l1 x32_1).f1)):=(a_k a_E.out 1).trans rfl
          have l_O:=a_g a_E.out 0
          have l_P:=a_g a_E.out 1
          go_wp2_with (first|((with_reducible refine a_y (f:=20) rfl ?_);refine a_5 (some 92) rfl rfl Tryd.func20 (by kernel_rfl) rfl #[.agg #[.slice Ao17 t252.length co17],.int .i64 ((a_p l1 x32_1).f0),.int .u32 (rd l2 x80_4)] rfl (by (try simp only [List.map_toArray,List.map_cons,List.map_nil]);first|done|rfl|(simp only [List.length_drop,List.length_take];rfl)) ?_;(with_reducible refine (b_e.calls _ _ t252 ((a_p l1 x32_1).f0) (rd l2 x80_4) t271 t274 _ ?side1 ?side2 ?side3 A98.out).mono ?_);(case side1 => repeat (first|exact (Kd.a_z a_v.out).2.2|(with_reducible refine Kd.a_N ?_ _)|(with_reducible refine Kd.a_O ?_ _)|(with_reducible refine Kd.a_8 ?_)));(case side2 => exact (Kd.a_z a_v.out).2.1);(case side3 => exact b_W.below HTAB_.out (by repeat (first|(with_reducible first|exact HB.out|apply a_d|apply a_c|apply a_e|refine a_a ?_ a_L.out|refine a_a ?_ a_P.out|refine a_a ?_ a_Q.out|refine a_a ?_ b_n.out)|exact HB.out)));rintro e w115 ⟨v272,rfl,ho0,hb⟩;refine ⟨_,rfl,?_⟩;have b_H:=a_b.mk (Kd.b_o ho0 (a_i (by repeat (first|(with_reducible first|exact HB.out|apply a_d|apply a_c|apply a_e|refine a_a ?_ a_L.out|refine a_a ?_ a_P.out|refine a_a ?_ a_Q.out|refine a_a ?_ b_n.out)|exact HB.out))));replace a_v:=a_b.mk (Kd.a_B (rup_ a_v.out) hb);replace a_r:=a_b.mk (Kd.a_B (rup_ a_r.out) hb);replace a_D:=a_b.mk (a_h (bup_ a_D.out) hb);replace a_K:=a_b.mk (a_h (bup_ a_K.out) hb);replace a_I:=a_b.mk (a_h (bup_ a_I.out) hb);replace a_E:=a_b.mk (a_h (bup_ a_E.out) hb);replace HB:=a_b.mk (a_l (by repeat (first|(with_reducible first|exact HB.out|apply a_d|apply a_c|apply a_e|refine a_a ?_ a_L.out|refine a_a ?_ a_P.out|refine a_a ?_ a_Q.out|refine a_a ?_ b_n.out)|exact HB.out)) hb);(try clear hb);(try clear hb2);(try clear hk);(try clear hi);(try clear ho0);have o_v:=a_4.out;have p_F:=a_Z.out;have k_D : w115.cell? ⟨a_X,0,none⟩ = some (.slice Ao19 t255.length co19):=(a_k a_I.out 0).trans rfl;have l_Q:=a_g a_I.out 0;have k_E : w115.cell? ⟨b_b,0,none⟩ = some (.int .i64 ((a_p l1 x32_1).f0)):=(a_k a_E.out 0).trans rfl;have k_F : w115.cell? ⟨b_b,1,none⟩ = some (.int .i64 ((a_p l1 x32_1).f1)):=(a_k a_E.out 1).trans rfl;have l_R:=a_g a_E.out 0;have l_S:=a_g a_E.out 1)|((with_reducible refine a_y (f:=18) rfl ?_);refine a_5 (some 107) rfl rfl Tryd.func18 (by kernel_rfl) rfl #[.agg #[.slice Ao19 t255.length co19],.int .i64 ((a_p l1 x32_1).f0)] rfl (by (try simp only [List.map_toArray,List.map_cons,List.map_nil]);first|done|rfl|(simp only [List.length_drop,List.length_take];rfl)) ?_;(with_reducible refine (a_C.calls _ _ t255 ((a_p l1 x32_1).f0) true _ ?side1 ?side2 A100.out).mono ?_);(case side1 => repeat (first|exact (Kd.a_z a_r.out).2.2|(with_reducible refine Kd.a_N ?_ _)|(with_reducible refine Kd.a_O ?_ _)|(with_reducible refine Kd.a_8 ?_)));(case side2 => exact (Kd.a_z a_r.out).2.1);rintro e w119 ⟨rfl,hb⟩;refine ⟨_,rfl,?_⟩;replace a_v:=a_b.mk (Kd.a_B (rup_ a_v.out) hb);replace a_r:=a_b.mk (Kd.a_B (rup_ a_r.out) hb);replace b_H:=a_b.mk (Kd.a_B (rup_ b_H.out) hb);replace a_D:=a_b.mk (a_h (bup_ a_D.out) hb);replace a_K:=a_b.mk (a_h (bup_ a_K.out) hb);replace a_I:=a_b.mk (a_h (bup_ a_I.out) hb);replace a_E:=a_b.mk (a_h (bup_ a_E.out) hb);replace HB:=a_b.mk (a_l (by repeat (first|(with_reducible first|exact HB.out|apply a_d|apply a_c|apply a_e|refine a_a ?_ a_L.out|refine a_a ?_ a_P.out|refine a_a ?_ a_Q.out|refine a_a ?_ b_n.out)|exact HB.out)) hb);(try clear hb);(try clear hb2);(try clear hk);(try clear hi))|((with_reducible refine a_y (f:=21) rfl ?_);refine a_5 (some 111) rfl rfl Tryd.func21 (by kernel_rfl) rfl #[.int .u32 (rd l2 x80_4)] rfl (by (try simp only [List.map_toArray,List.map_cons,List.map_nil]);first|done|rfl|(simp only [List.length_drop,List.length_take];rfl)) ?_;(with_reducible refine (a_1.calls (rd l2 x80_4) true _ A102.out).mono ?_);rintro e w' ⟨rfl,⟨nd,rfl⟩⟩;refine ⟨_,rfl,?_⟩;have k_G : w119.cell? ⟨a_X,0,none⟩ = some (.slice Ao19 t255.length co19):=(a_k a_I.out 0).trans rfl;have l_T:=a_g a_I.out 0;have k_H : w119.cell? ⟨b_b,0,none⟩ = some (.int .i64 ((a_p l1 x32_1).f0)):=(a_k a_E.out 0).trans rfl;have k_I : w119.cell? ⟨b_b,1,none⟩ = some (.int .i64 ((a_p l1 x32_1).f1)):=(a_k a_E.out 1).trans rfl;have l_U:=a_g a_E.out 0;have l_V:=a_g a_E.out 1)|((with_reducible refine a_y (f:=22) rfl ?_);refine a_5 (some 99) rfl rfl Tryd.func22 (by kernel_rfl) rfl #[.agg #[.slice Ao19 t255.length co19],.int .i64 ((a_p l1 x32_1).f0),.int .u32 (rd l2 x80_4)] rfl (by (try simp only [List.map_toArray,List.map_cons,List.map_nil]);first|done|rfl|(simp only [List.length_drop,List.length_take];rfl)) ?_;(with_reducible refine (a_m.calls k4 _ _ t255 ((a_p l1 x32_1).f0) (rd l2 x80_4) t277 _ ?side1 ?side2 A104.out).mono ?_);(case side1 => repeat (first|exact (Kd.a_z a_r.out).2.2|(with_reducible refine Kd.a_N ?_ _)|(with_reducible refine Kd.a_O ?_ _)|(with_reducible refine Kd.a_8 ?_)));(case side2 => exact (Kd.a_z a_r.out).2.1);rintro e w122 ⟨v278,rfl,ho0,hb⟩;refine ⟨_,rfl,?_⟩;have f_o:=a_b.mk (Kd.b_o (Kd.e_g ho0 (Kd.R_lt (rup_ b_H.out))) (a_i (by repeat (first|(with_reducible first|exact HB.out|apply a_d|apply a_c|apply a_e|refine a_a ?_ a_L.out|refine a_a ?_ a_P.out|refine a_a ?_ a_Q.out|refine a_a ?_ b_n.out)|exact HB.out))));replace a_v:=a_b.mk (Kd.a_B (rup_ a_v.out) hb);replace a_r:=a_b.mk (Kd.a_B (rup_ a_r.out) hb);replace b_H:=a_b.mk (Kd.d_a (rup_ b_H.out) (Kd.e_e ho0) hb);replace a_D:=a_b.mk (a_h (bup_ a_D.out) hb);replace a_K:=a_b.mk (a_h (bup_ a_K.out) hb);replace a_I:=a_b.mk (a_h (bup_ a_I.out) hb);replace a_E:=a_b.mk (a_h (bup_ a_E.out) hb);replace HB:=a_b.mk (a_l (by repeat (first|(with_reducible first|exact HB.out|apply a_d|apply a_c|apply a_e|refine a_a ?_ a_L.out|refine a_a ?_ a_P.out|refine a_a ?_ a_Q.out|refine a_a ?_ b_n.out)|exact HB.out)) hb);(try clear hb);(try clear hb2);(try clear hk);(try clear hi);(try clear ho0);obtain ⟨q_L,q_8,n_e⟩:=Kd.b_V b_H.out;subst n_e;obtain ⟨q_M,q_9,n_f⟩:=Kd.b_V f_o.out;subst n_f)|(go_at_call 23;(with_reducible refine (a_j.calls k4 _ _ t271 _ _ t277 true _ ?side1 ?side2 ?side3 ?side4 A106.out).mono ?_);(case side1 => repeat (first|exact (Kd.a_z b_H.out).2.2|(with_reducible refine Kd.a_N ?_ _)|(with_reducible refine Kd.a_O ?_ _)|(with_reducible refine Kd.a_8 ?_)));(case side2 => exact (Kd.a_z b_H.out).2.1);(case side3 => repeat (first|exact (Kd.a_z f_o.out).2.2|(with_reducible refine Kd.a_N ?_ _)|(with_reducible refine Kd.a_O ?_ _)|(with_reducible refine Kd.a_8 ?_)));(case side4 => exact (Kd.a_z f_o.out).2.1);rintro e w' ⟨rfl,⟨nd,rfl⟩⟩))
          go_roundg k4
          case measure => have:=HK1.out;have:=HJ41.out;have:=HJ90.out;have:=HK4.out;omega
          case rel => exact ⟨(wrap64 (x80_4 + 1)),(by first|rfl|(simp;done)|(simp [*];done)),H',⟨by have:=HK1.out;have:=HJ41.out;have:=HJ90.out;have:=HK4.out;omega⟩,⟨by (with_reducible repeat (first|apply Kd.a_T|apply Kd.a_U|apply Kd.a_9));exact a_v.out⟩,⟨by (with_reducible repeat (first|apply Kd.a_T|apply Kd.a_U|apply Kd.a_9));exact a_r.out⟩,⟨by (with_reducible repeat (first|refine a_o ?_ _|refine a_q ?_|refine a_n ?_ _));exact a_D.out⟩,⟨by (with_reducible repeat (first|refine a_o ?_ _|refine a_q ?_|refine a_n ?_ _));exact a_K.out⟩,⟨by (with_reducible repeat (first|refine a_o ?_ _|refine a_q ?_|refine a_n ?_ _));exact a_I.out⟩,⟨by (with_reducible repeat (first|refine a_o ?_ _|refine a_q ?_|refine a_n ?_ _));exact a_E.out⟩,⟨by repeat (first|(with_reducible first|exact HB.out|apply a_d|apply a_c|apply a_e|refine a_a ?_ a_L.out|refine a_a ?_ a_P.out|refine a_a ?_ a_Q.out|refine a_a ?_ b_n.out)|exact HB.out)⟩⟩
         replace c107:=Bool.eq_false_iff.mpr c107
         subst c107
         have H1 : (some false) = some r:=by rw [if_neg (show ¬ (false = true) by decide)] at H;exact H
         clear H
         have H:=H1
         clear H1
         obtain rfl:=Option.some.inj H
         have p270 : 0 ≤ (x80_4 : Int):=of_decide_eq_true (by first|(with_reducible assumption)|assumption)
         have q270 : x80_4 < (l2.length : Int):=of_decide_eq_true (by first|(with_reducible assumption)|assumption)
         obtain ⟨ad270,e270,b_a⟩:=Kd.c_B HR2.out x80_4 p270 q270
         cases e270
         replace b_a:=(HB.out.cell (World.block_lt_of_cell? w _ b_a)).trans b_a
         replace p270:=eq_true p270
         replace q270:=eq_true q270
         have o_w:=a_3.out
         have p_G:=a_Y.out
         have o_x:=a_6.out
         have p_H:=a_7.out
         have o_y:=b_x.out
         have p_I:=b_O.out
         have k_J : wr.cell? ⟨a_0,0,none⟩ = some (.slice Ao17 t252.length co17):=(a_k a_K.out 0).trans rfl
         have l_W:=a_g a_K.out 0
         have o_z:=b_N.out
         have p_J:=b_w.out
         have o_A:=b_P.out
         have p_K:=b_y.out
         have k_K : wr.cell? ⟨b_b,0,none⟩ = some (.int .i64 ((a_p l1 x32_1).f0)):=(a_k a_E.out 0).trans rfl
         have k_L : wr.cell? ⟨b_b,1,none⟩ = some (.int .i64 ((a_p l1 x32_1).f1)):=(a_k a_E.out 1).trans rfl
         have l_X:=a_g a_E.out 0
         have l_Y:=a_g a_E.out 1
         go_wp2_with (first|((with_reducible refine a_y (f:=20) rfl ?_);refine a_5 (some 92) rfl rfl Tryd.func20 (by kernel_rfl) rfl #[.agg #[.slice Ao17 t252.length co17],.int .i64 ((a_p l1 x32_1).f0),.int .u32 (rd l2 x80_4)] rfl (by (try simp only [List.map_toArray,List.map_cons,List.map_nil]);first|done|rfl|(simp only [List.length_drop,List.length_take];rfl)) ?_;(with_reducible refine (b_e.calls _ _ t252 ((a_p l1 x32_1).f0) (rd l2 x80_4) t271 t274 _ ?side1 ?side2 ?side3 A98.out).mono ?_);(case side1 => repeat (first|exact (Kd.a_z a_v.out).2.2|(with_reducible refine Kd.a_N ?_ _)|(with_reducible refine Kd.a_O ?_ _)|(with_reducible refine Kd.a_8 ?_)));(case side2 => exact (Kd.a_z a_v.out).2.1);(case side3 => exact b_W.below HTAB_.out (by repeat (first|(with_reducible first|exact HB.out|apply a_d|apply a_c|apply a_e|refine a_a ?_ a_L.out|refine a_a ?_ a_P.out|refine a_a ?_ a_Q.out|refine a_a ?_ b_n.out)|exact HB.out)));rintro e w132 ⟨v272,rfl,ho0,hb⟩;refine ⟨_,rfl,?_⟩;have b_H:=a_b.mk (Kd.b_o ho0 (a_i (by repeat (first|(with_reducible first|exact HB.out|apply a_d|apply a_c|apply a_e|refine a_a ?_ a_L.out|refine a_a ?_ a_P.out|refine a_a ?_ a_Q.out|refine a_a ?_ b_n.out)|exact HB.out))));replace a_v:=a_b.mk (Kd.a_B (rup_ a_v.out) hb);replace a_r:=a_b.mk (Kd.a_B (rup_ a_r.out) hb);replace a_D:=a_b.mk (a_h (bup_ a_D.out) hb);replace a_K:=a_b.mk (a_h (bup_ a_K.out) hb);replace a_I:=a_b.mk (a_h (bup_ a_I.out) hb);replace a_E:=a_b.mk (a_h (bup_ a_E.out) hb);replace HB:=a_b.mk (a_l (by repeat (first|(with_reducible first|exact HB.out|apply a_d|apply a_c|apply a_e|refine a_a ?_ a_L.out|refine a_a ?_ a_P.out|refine a_a ?_ a_Q.out|refine a_a ?_ b_n.out)|exact HB.out)) hb);(try clear hb);(try clear hb2);(try clear hk);(try clear hi);(try clear ho0);have o_B:=a_4.out;have p_L:=a_Z.out;have k_M : w132.cell? ⟨a_X,0,none⟩ = some (.slice Ao19 t255.length co19):=(a_k a_I.out 0).trans rfl;have l_Z:=a_g a_I.out 0;have k_N : w132.cell? ⟨b_b,0,none⟩ = some (.int .i64 ((a_p l1 x32_1).f0)):=(a_k a_E.out 0).trans rfl;have k_O : w132.cell? ⟨b_b,1,none⟩ = some (.int .i64 ((a_p l1 x32_1).f1)):=(a_k a_E.out 1).trans rfl;have l_0:=a_g a_E.out 0;have l_1:=a_g a_E.out 1)|((with_reducible refine a_y (f:=18) rfl ?_);refine a_5 (some 107) rfl rfl Tryd.func18 (by kernel_rfl) rfl #[.agg #[.slice Ao19 t255.length co19],.int .i64 ((a_p l1 x32_1).f0)] rfl (by (try simp only [List.map_toArray,List.map_cons,List.map_nil]);first|done|rfl|(simp only [List.length_drop,List.length_take];rfl)) ?_;(with_reducible refine (a_C.calls _ _ t255 ((a_p l1 x32_1).f0) true _ ?side1 ?side2 A100.out).mono ?_);(case side1 => repeat (first|exact (Kd.a_z a_r.out).2.2|(with_reducible refine Kd.a_N ?_ _)|(with_reducible refine Kd.a_O ?_ _)|(with_reducible refine Kd.a_8 ?_)));(case side2 => exact (Kd.a_z a_r.out).2.1);rintro e w136 ⟨rfl,hb⟩;refine ⟨_,rfl,?_⟩;replace a_v:=a_b.mk (Kd.a_B (rup_ a_v.out) hb);replace a_r:=a_b.mk (Kd.a_B (rup_ a_r.out) hb);replace b_H:=a_b.mk (Kd.a_B (rup_ b_H.out) hb);replace a_D:=a_b.mk (a_h (bup_ a_D.out) hb);replace a_K:=a_b.mk (a_h (bup_ a_K.out) hb);replace a_I:=a_b.mk (a_h (bup_ a_I.out) hb);replace a_E:=a_b.mk (a_h (bup_ a_E.out) hb);replace HB:=a_b.mk (a_l (by repeat (first|(with_reducible first|exact HB.out|apply a_d|apply a_c|apply a_e|refine a_a ?_ a_L.out|refine a_a ?_ a_P.out|refine a_a ?_ a_Q.out|refine a_a ?_ b_n.out)|exact HB.out)) hb);(try clear hb);(try clear hb2);(try clear hk);(try clear hi))|((with_reducible refine a_y (f:=21) rfl ?_);refine a_5 (some 111) rfl rfl Tryd.func21 (by kernel_rfl) rfl #[.int .u32 (rd l2 x80_4)] rfl (by (try simp only [List.map_toArray,List.map_cons,List.map_nil]);first|done|rfl|(simp only [List.length_drop,List.length_take];rfl)) ?_;(with_reducible refine (a_1.calls (rd l2 x80_4) true _ A102.out).mono ?_);rintro e w' ⟨rfl,⟨nd,rfl⟩⟩;refine ⟨_,rfl,?_⟩;have k_P : w136.cell? ⟨a_X,0,none⟩ = some (.slice Ao19 t255.length co19):=(a_k a_I.out 0).trans rfl;have l_2:=a_g a_I.out 0;have k_Q : w136.cell? ⟨b_b,0,none⟩ = some (.int .i64 ((a_p l1 x32_1).f0)):=(a_k a_E.out 0).trans rfl;have k_R : w136.cell? ⟨b_b,1,none⟩ = some (.int .i64 ((a_p l1 x32_1).f1)):=(a_k a_E.out 1).trans rfl;have l_3:=a_g a_E.out 0;have l_4:=a_g a_E.out 1)|((with_reducible refine a_y (f:=22) rfl ?_);refine a_5 (some 99) rfl rfl Tryd.func22 (by kernel_rfl) rfl #[.agg #[.slice Ao19 t255.length co19],.int .i64 ((a_p l1 x32_1).f0),.int .u32 (rd l2 x80_4)] rfl (by (try simp only [List.map_toArray,List.map_cons,List.map_nil]);first|done|rfl|(simp only [List.length_drop,List.length_take];rfl)) ?_;(with_reducible refine (a_m.calls k4 _ _ t255 ((a_p l1 x32_1).f0) (rd l2 x80_4) t277 _ ?side1 ?side2 A104.out).mono ?_);(case side1 => repeat (first|exact (Kd.a_z a_r.out).2.2|(with_reducible refine Kd.a_N ?_ _)|(with_reducible refine Kd.a_O ?_ _)|(with_reducible refine Kd.a_8 ?_)));(case side2 => exact (Kd.a_z a_r.out).2.1);rintro e w139 ⟨v278,rfl,ho0,hb⟩;refine ⟨_,rfl,?_⟩;have f_o:=a_b.mk (Kd.b_o (Kd.e_g ho0 (Kd.R_lt (rup_ b_H.out))) (a_i (by repeat (first|(with_reducible first|exact HB.out|apply a_d|apply a_c|apply a_e|refine a_a ?_ a_L.out|refine a_a ?_ a_P.out|refine a_a ?_ a_Q.out|refine a_a ?_ b_n.out)|exact HB.out))));replace a_v:=a_b.mk (Kd.a_B (rup_ a_v.out) hb);replace a_r:=a_b.mk (Kd.a_B (rup_ a_r.out) hb);replace b_H:=a_b.mk (Kd.d_a (rup_ b_H.out) (Kd.e_e ho0) hb);replace a_D:=a_b.mk (a_h (bup_ a_D.out) hb);replace a_K:=a_b.mk (a_h (bup_ a_K.out) hb);replace a_I:=a_b.mk (a_h (bup_ a_I.out) hb);replace a_E:=a_b.mk (a_h (bup_ a_E.out) hb);replace HB:=a_b.mk (a_l (by repeat (first|(with_reducible first|exact HB.out|apply a_d|apply a_c|apply a_e|refine a_a ?_ a_L.out|refine a_a ?_ a_P.out|refine a_a ?_ a_Q.out|refine a_a ?_ b_n.out)|exact HB.out)) hb);(try clear hb);(try clear hb2);(try clear hk);(try clear hi);(try clear ho0);obtain ⟨q_N,r_a,n_g⟩:=Kd.b_V b_H.out;subst n_g;obtain ⟨q_O,r_b,n_h⟩:=Kd.b_V f_o.out;subst n_h)|(go_at_call 23;(with_reducible refine (a_j.calls k4 _ _ t271 _ _ t277 false _ ?side1 ?side2 ?side3 ?side4 A106.out).mono ?_);(case side1 => repeat (first|exact (Kd.a_z b_H.out).2.2|(with_reducible refine Kd.a_N ?_ _)|(with_reducible refine Kd.a_O ?_ _)|(with_reducible refine Kd.a_8 ?_)));(case side2 => exact (Kd.a_z b_H.out).2.1);(case side3 => repeat (first|exact (Kd.a_z f_o.out).2.2|(with_reducible refine Kd.a_N ?_ _)|(with_reducible refine Kd.a_O ?_ _)|(with_reducible refine Kd.a_8 ?_)));(case side4 => exact (Kd.a_z f_o.out).2.1);rintro e w' ⟨rfl,⟨nd,rfl⟩⟩))
         go_ret
         exact ⟨by first|rfl|(simp [a_t,a_u] <;> rfl)|(simp [*, a_t,a_u] <;> rfl),by repeat (first|(with_reducible first|exact HB.out|apply a_d|apply a_c|apply a_e|refine a_a ?_ a_L.out|refine a_a ?_ a_P.out|refine a_a ?_ a_Q.out|refine a_a ?_ b_n.out)|exact HB.out)⟩
end Go.Proofs.YtcpfcehfgenljaaDoor.Q
end
