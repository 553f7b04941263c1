/- Part 6 of 7 of what the row of PoolTells stands on: contracts over the given program's functions, the plain law, the row; no condition beyond those that each theorem states. -/
import Derived.Test.YtkhbffjfclepfaaXPoolTells4
section
namespace Go.Proofs.Ytkhbffjfclepfaa.Q
open Go.RowKit Go.Proofs.YtkhbffjfclepfaaW.PrintWords Go.Proofs.YtkhbffjfclepfaaW.PrintLast Go.Proofs.YtkhbffjfclepfaaW.PrintMore
set_option linter.unusedVariables false
set_option linter.unusedSimpArgs false
mutual
def a_b.l0 : Nat → List (S26) → List Int → List (S26) → Int → Int → Option (Bool)
 | 0,_,_,_,_,_ => none
 | k + 1,x0,x1,x23,x24,x25 => if x25 < x24 then (if 0 ≤ x25 then (if x25 < (x23.length : Int) then (if x25 = 8 then (some true) else ((a_v.f ((a_L x23 x25).f0)).bind fun t317 => (if 0 < (x0.length : Int) then ((a_v.f ((a_L x0 0).f0)).bind fun t321 => ((a_h.f k t317).bind fun t326 => ((a_s.f k t317).bind fun t327 => (if ((t327 == 0) != t326) = true then (a_b.j1 k x0 x1 t326 x23 x24 x25 true t317) else (if t326 = true then ((a_O.f k t317 t321).bind fun t328 => ((a_o.f k t317 t321).bind fun t329 => (if (t328 != t329) = true then (a_b.j1 k x0 x1 t326 x23 x24 x25 true t317) else ((a_v.f ((a_L x23 x25).f0)).bind fun t330 => ((a_O.f k t317 t330).bind fun t333 => (a_b.j1 k x0 x1 t326 x23 x24 x25 (!t333) t317)))))) else (if t327 = 180 then ((a_O.f k t317 t321).bind fun t334 => ((a_o.f k t317 t321).bind fun t335 => (if (t334 != t335) = true then (a_b.j1 k x0 x1 t326 x23 x24 x25 true t317) else ((a_v.f ((a_L x23 x25).f0)).bind fun t336 => ((a_O.f k t317 t336).bind fun t339 => (a_b.j1 k x0 x1 t326 x23 x24 x25 (!t339) t317)))))) else (a_b.j1 k x0 x1 t326 x23 x24 x25 true t317))))))) else (none)))) else (none)) else (none)) else (some true)
def a_b.j1 : Nat → List (S26) → List Int → Bool → List (S26) → Int → Int → Bool → List Int → Option (Bool)
 | 0,_,_,_,_,_,_,_,_ => none
 | k + 1,x0,x1,x9,x23,x24,x25,x69,x325000 => if x69 = true then (some false) else (a_b.l1 k x0 x1 x9 0 x23 x24 x25 x325000 (x325000.length : Int) 0 x325000)
def a_b.l1 : Nat → List (S26) → List Int → Bool → Int → List (S26) → Int → Int → List Int → Int → Int → List Int → Option (Bool)
 | 0,_,_,_,_,_,_,_,_,_,_,_ => none
 | k + 1,x0,x1,x9,x11,x23,x24,x25,x71,x72,x73,x325000 => if x73 < x72 then (if 0 ≤ x73 then (if x73 < (x71.length : Int) then (if x9 = true then (a_b.l1 k x0 x1 x9 (Go.bits .or .u32 x11 (rd x71 x73)) x23 x24 x25 x71 x72 (wrap64 (x73 + 1)) x325000) else (a_b.l1 k x0 x1 x9 x11 x23 x24 x25 x71 x72 (wrap64 (x73 + 1)) x325000)) else (none)) else (none)) else ((a_2.f k x325000).bind fun t341 => (if t341 = x11 then (a_b.l2 k x0 x1 x9 x23 x24 x25 x1 (x1.length : Int) 0 x325000) else (some false)))
def a_b.l2 : Nat → List (S26) → List Int → Bool → List (S26) → Int → Int → List Int → Int → Int → List Int → Option (Bool)
 | 0,_,_,_,_,_,_,_,_,_,_ => none
 | k + 1,x0,x1,x9,x23,x24,x25,x86,x87,x88,x325000 => if x88 < x87 then (if 0 ≤ x88 then (if x88 < (x86.length : Int) then (if x88 = 12 then (a_b.l0 k x0 x1 x23 x24 (wrap64 (x25 + 1))) else ((b_k.f k x325000 (rd x86 x88)).bind fun bt343 => (if x9 = true then ((a_l.f k x325000 (rd x86 x88)).bind fun bt345 => ((a_S.f x325000 (rd x86 x88)).bind fun t347 => (if t347 = true then (if 0 ≤ (rd x86 x88) then (if (rd x86 x88) < (x325000.length : Int) then (if bt343.1 = bt345.1 then (if (bt343.2 != bt345.2) = true then (some false) else ((b_d.f k x325000 (rd x86 x88)).bind fun t349 => (if t349 = (rd x325000 (rd x86 x88)) then (a_b.l2 k x0 x1 x9 x23 x24 x25 x86 x87 (wrap64 (x88 + 1)) x325000) else (some false)))) else (some false)) else (none)) else (none)) else (if bt343.1 = bt345.1 then (if (bt343.2 != bt345.2) = true then (some false) else ((b_d.f k x325000 (rd x86 x88)).bind fun t350 => (if t350 = 0 then (a_b.l2 k x0 x1 x9 x23 x24 x25 x86 x87 (wrap64 (x88 + 1)) x325000) else (some false)))) else (some false))))) else (if bt343.1 = 0 then (if (bt343.2 != false) = true then (some false) else ((b_d.f k x325000 (rd x86 x88)).bind fun t351 => (if t351 = 0 then (a_b.l2 k x0 x1 x9 x23 x24 x25 x86 x87 (wrap64 (x88 + 1)) x325000) else (some false)))) else (some false))))) else (none)) else (none)) else (a_b.l0 k x0 x1 x23 x24 (wrap64 (x25 + 1)))
end
def a_b.f (k : Nat) (l0 : List (S26)) (l1 : List Int) : Option (Bool):=(a_G.f k).bind fun t314 => (if t314 = true then (a_b.l0 k l0 l1 l0 (l0.length : Int) 0) else (some false))
theorem a_b.b_X : ∀ k,(∀ y0 y1 y2 y3 y4,LeO (a_b.l0 k y0 y1 y2 y3 y4) (a_b.l0 (k + 1) y0 y1 y2 y3 y4)) ∧ (∀ y0 y1 y2 y3 y4 y5 y6 y7,LeO (a_b.j1 k y0 y1 y2 y3 y4 y5 y6 y7) (a_b.j1 (k + 1) y0 y1 y2 y3 y4 y5 y6 y7)) ∧ (∀ y0 y1 y2 y3 y4 y5 y6 y7 y8 y9 y10,LeO (a_b.l1 k y0 y1 y2 y3 y4 y5 y6 y7 y8 y9 y10) (a_b.l1 (k + 1) y0 y1 y2 y3 y4 y5 y6 y7 y8 y9 y10)) ∧ (∀ y0 y1 y2 y3 y4 y5 y6 y7 y8 y9,LeO (a_b.l2 k y0 y1 y2 y3 y4 y5 y6 y7 y8 y9) (a_b.l2 (k + 1) y0 y1 y2 y3 y4 y5 y6 y7 y8 y9))
 | 0 => ⟨fun _ _ _ _ _ r h => by simp [a_b.l0] at h,fun _ _ _ _ _ _ _ _ r h => by simp [a_b.j1] at h,fun _ _ _ _ _ _ _ _ _ _ _ r h => by simp [a_b.l1] at h,fun _ _ _ _ _ _ _ _ _ _ r h => by simp [a_b.l2] at h⟩
 | k + 1 => by
  obtain ⟨ih0,ih1,ih2,ih3⟩:=a_b.b_X k
  refine ⟨?_,?_,?_,?_⟩
  ·intro y0 y1 y2 y3 y4
   unfold a_b.l0
   repeat' first
   | (with_reducible exact ih0 _ _ _ _ _)
   | (with_reducible exact ih1 _ _ _ _ _ _ _ _)
   | (with_reducible exact ih2 _ _ _ _ _ _ _ _ _ _ _)
   | (with_reducible exact ih3 _ _ _ _ _ _ _ _ _ _)
   | (with_reducible exact a_G.mono _)
   | (with_reducible exact a_l.mono _ _ _)
   | (with_reducible exact a_h.mono _ _)
   | (with_reducible exact a_o.mono _ _ _)
   | (with_reducible exact a_s.mono _ _)
   | (with_reducible exact a_2.mono _ _)
   | (with_reducible exact b_k.mono _ _ _)
   | (with_reducible exact a_O.mono _ _ _)
   | (with_reducible exact b_d.mono _ _ _)
   | (with_reducible exact LeO.refl _)
   | (with_reducible exact LeO.none _)
   | (with_reducible refine LeO.ite ?_ ?_)
   | (with_reducible refine LeO.bind ?_ (fun _ => ?_))
   | exact ih0 _ _ _ _ _
   | exact ih1 _ _ _ _ _ _ _ _
   | exact ih2 _ _ _ _ _ _ _ _ _ _ _
   | exact ih3 _ _ _ _ _ _ _ _ _ _
   | exact a_G.mono _
   | exact a_l.mono _ _ _
   | exact a_h.mono _ _
   | exact a_o.mono _ _ _
   | exact a_s.mono _ _
   | exact a_2.mono _ _
   | exact b_k.mono _ _ _
   | exact a_O.mono _ _ _
   | exact b_d.mono _ _ _
   | exact LeO.none _
   | refine LeO.ite ?_ ?_
   | refine LeO.bind ?_ (fun _ => ?_)
  ·intro y0 y1 y2 y3 y4 y5 y6 y7
   unfold a_b.j1
   repeat' first
   | (with_reducible exact ih0 _ _ _ _ _)
   | (with_reducible exact ih1 _ _ _ _ _ _ _ _)
   | (with_reducible exact ih2 _ _ _ _ _ _ _ _ _ _ _)
   | (with_reducible exact ih3 _ _ _ _ _ _ _ _ _ _)
   | (with_reducible exact a_G.mono _)
   | (with_reducible exact a_l.mono _ _ _)
   | (with_reducible exact a_h.mono _ _)
   | (with_reducible exact a_o.mono _ _ _)
   | (with_reducible exact a_s.mono _ _)
   | (with_reducible exact a_2.mono _ _)
   | (with_reducible exact b_k.mono _ _ _)
   | (with_reducible exact a_O.mono _ _ _)
   | (with_reducible exact b_d.mono _ _ _)
   | (with_reducible exact LeO.refl _)
   | (with_reducible exact LeO.none _)
   | (with_reducible refine LeO.ite ?_ ?_)
   | (with_reducible refine LeO.bind ?_ (fun _ => ?_))
   | exact ih0 _ _ _ _ _
   | exact ih1 _ _ _ _ _ _ _ _
   | exact ih2 _ _ _ _ _ _ _ _ _ _ _
   | exact ih3 _ _ _ _ _ _ _ _ _ _
   | exact a_G.mono _
   | exact a_l.mono _ _ _
   | exact a_h.mono _ _
   | exact a_o.mono _ _ _
   | exact a_s.mono _ _
   | exact a_2.mono _ _
   | exact b_k.mono _ _ _
   | exact a_O.mono _ _ _
   | exact b_d.mono _ _ _
   | exact LeO.none _
   | refine LeO.ite ?_ ?_
   | refine LeO.bind ?_ (fun _ => ?_)
  ·intro y0 y1 y2 y3 y4 y5 y6 y7 y8 y9 y10
   unfold a_b.l1
   repeat' first
   | (with_reducible exact ih0 _ _ _ _ _)
   | (with_reducible exact ih1 _ _ _ _ _ _ _ _)
   | (with_reducible exact ih2 _ _ _ _ _ _ _ _ _ _ _)
   | (with_reducible exact ih3 _ _ _ _ _ _ _ _ _ _)
   | (with_reducible exact a_G.mono _)
   | (with_reducible exact a_l.mono _ _ _)
   | (with_reducible exact a_h.mono _ _)
   | (with_reducible exact a_o.mono _ _ _)
   | (with_reducible exact a_s.mono _ _)
   | (with_reducible exact a_2.mono _ _)
   | (with_reducible exact b_k.mono _ _ _)
   | (with_reducible exact a_O.mono _ _ _)
   | (with_reducible exact b_d.mono _ _ _)
   | (with_reducible exact LeO.refl _)
   | (with_reducible exact LeO.none _)
   | (with_reducible refine LeO.ite ?_ ?_)
   | (with_reducible refine LeO.bind ?_ (fun _ => ?_))
   | exact ih0 _ _ _ _ _
   | exact ih1 _ _ _ _ _ _ _ _
   | exact ih2 _ _ _ _ _ _ _ _ _ _ _
   | exact ih3 _ _ _ _ _ _ _ _ _ _
   | exact a_G.mono _
   | exact a_l.mono _ _ _
   | exact a_h.mono _ _
   | exact a_o.mono _ _ _
   | exact a_s.mono _ _
   | exact a_2.mono _ _
   | exact b_k.mono _ _ _
   | exact a_O.mono _ _ _
   | exact b_d.mono _ _ _
   | exact LeO.none _
   | refine LeO.ite ?_ ?_
   | refine LeO.bind ?_ (fun _ => ?_)
  ·intro y0 y1 y2 y3 y4 y5 y6 y7 y8 y9
   unfold a_b.l2
   repeat' first
   | (with_reducible exact ih0 _ _ _ _ _)
   | (with_reducible exact ih1 _ _ _ _ _ _ _ _)
   | (with_reducible exact ih2 _ _ _ _ _ _ _ _ _ _ _)
   | (with_reducible exact ih3 _ _ _ _ _ _ _ _ _ _)
   | (with_reducible exact a_G.mono _)
   | (with_reducible exact a_l.mono _ _ _)
   | (with_reducible exact a_h.mono _ _)
   | (with_reducible exact a_o.mono _ _ _)
   | (with_reducible exact a_s.mono _ _)
   | (with_reducible exact a_2.mono _ _)
   | (with_reducible exact b_k.mono _ _ _)
   | (with_reducible exact a_O.mono _ _ _)
   | (with_reducible exact b_d.mono _ _ _)
   | (with_reducible exact LeO.refl _)
   | (with_reducible exact LeO.none _)
   | (with_reducible refine LeO.ite ?_ ?_)
   | (with_reducible refine LeO.bind ?_ (fun _ => ?_))
   | exact ih0 _ _ _ _ _
   | exact ih1 _ _ _ _ _ _ _ _
   | exact ih2 _ _ _ _ _ _ _ _ _ _ _
   | exact ih3 _ _ _ _ _ _ _ _ _ _
   | exact a_G.mono _
   | exact a_l.mono _ _ _
   | exact a_h.mono _ _
   | exact a_o.mono _ _ _
   | exact a_s.mono _ _
   | exact a_2.mono _ _
   | exact b_k.mono _ _ _
   | exact a_O.mono _ _ _
   | exact b_d.mono _ _ _
   | exact LeO.none _
   | refine LeO.ite ?_ ?_
   | refine LeO.bind ?_ (fun _ => ?_)
theorem a_b.mono : ∀ a0 a1 k,LeO (a_b.f k a0 a1) (a_b.f (k + 1) a0 a1):=by
 intro a0 a1 k
 obtain ⟨ih0,ih1,ih2,ih3⟩:=a_b.b_X k
 unfold a_b.f
 repeat' first
  | (with_reducible exact ih0 _ _ _ _ _)
  | (with_reducible exact ih1 _ _ _ _ _ _ _ _)
  | (with_reducible exact ih2 _ _ _ _ _ _ _ _ _ _ _)
  | (with_reducible exact ih3 _ _ _ _ _ _ _ _ _ _)
  | (with_reducible exact a_G.mono _)
  | (with_reducible exact a_l.mono _ _ _)
  | (with_reducible exact a_h.mono _ _)
  | (with_reducible exact a_o.mono _ _ _)
  | (with_reducible exact a_s.mono _ _)
  | (with_reducible exact a_2.mono _ _)
  | (with_reducible exact b_k.mono _ _ _)
  | (with_reducible exact a_O.mono _ _ _)
  | (with_reducible exact b_d.mono _ _ _)
  | (with_reducible exact LeO.refl _)
  | (with_reducible exact LeO.none _)
  | (with_reducible refine LeO.ite ?_ ?_)
  | (with_reducible refine LeO.bind ?_ (fun _ => ?_))
  | exact ih0 _ _ _ _ _
  | exact ih1 _ _ _ _ _ _ _ _
  | exact ih2 _ _ _ _ _ _ _ _ _ _ _
  | exact ih3 _ _ _ _ _ _ _ _ _ _
  | exact a_G.mono _
  | exact a_l.mono _ _ _
  | exact a_h.mono _ _
  | exact a_o.mono _ _ _
  | exact a_s.mono _ _
  | exact a_2.mono _ _
  | exact b_k.mono _ _ _
  | exact a_O.mono _ _ _
  | exact b_d.mono _ _ _
  | exact LeO.none _
  | refine LeO.ite ?_ ?_
  | refine LeO.bind ?_ (fun _ => ?_)
def a_b.T7 : Bool × List (List Nat × List Nat):=(true,[([],[]),([0],[0]),([],[]),([2],[2]),([3],[3]),([4,1],[4]),([],[]),([],[]),([6,1,5,0,1,6,7],[1,6]),([7,5,8,0,1,2,3,4,5,6,7,8],[5,7])])
def a_b.B7 : List Nat:=[0,1,0,4,12,31,0,0,255,511]
theorem a_b.tab7 : rtab .any (opsOf Try.f5 7) = a_b.T7:=by kernel_rfl
theorem a_b.j_4 : d_r a_b.T7.2 a_b.B7 = true:=by kernel_rfl
def a_b.T10 : Bool × List (List Nat × List Nat):=(true,[([],[]),([0],[0]),([],[]),([1,2],[1,2]),([3],[3]),([4],[4]),([5,4],[4,5]),([6,4,4],[4,6]),([7],[7]),([8,7],[7,8]),([7,9,4],[4,7,9]),([4,10],[4,10]),([11,7],[11]),([12],[12]),([12],[12]),([13,14,12,12],[12,13,14]),([12],[12]),([12],[12]),([16,17,15,12],[12,16,17]),([15,18,12],[12,15,18]),([12,19],[12,19]),([20,18],[20]),([21],[21]),([21],[21]),([23,21,21],[21,23]),([22,24,24,21],[21,22,24]),([25,21],[21,25]),([21,26],[21,26])])
def a_b.B10 : List Nat:=[0,1,0,7,15,31,63,127,255,511,1023,2047,4095,8191,8191,32767,8191,8191,262143,524287,1048575,2097151,4194303,4194303,12582911,33554431,67108863,134217727]
theorem a_b.f_G : rtab .any (opsOf Try.f5 10) = a_b.T10:=by kernel_rfl
theorem a_b.e_f : d_r a_b.T10.2 a_b.B10 = true:=by kernel_rfl
set_option maxHeartbeats 8000000 in
set_option maxRecDepth 100000 in
theorem a_b.calls (k : Nat) (A0 : Option Addr) (c0 : Nat) (l0 : List (S26)) (A1 : Option Addr) (c1 : Nat) (l1 : List Int) (r : Bool) (w : World) (hr0 : Kd.C k26 w A0 l0.length l0) (hc0 : l0.length ≤ c0) (hr1 : Kd.C (Kd.int .i64) w A1 l1.length l1) (hc1 : l1.length ≤ c1) (h : a_b.f k l0 l1 = some r) :
 Calls Try.prog 5 #[.slice A0 l0.length c0,.slice A1 l1.length c1] w fun e w' => e = .returned (.bool r) ∧ Below w.heap.size w w':=by
 have hu26:=Try.underlying26
 have HR0:=a_a.mk hr0
 have HC0:=a_a.mk hc0
 clear hr0 hc0
 have HR1:=a_a.mk hr1
 have HC1:=a_a.mk hc1
 clear hr1 hc1
 have HB:=a_a.mk (Below.refl w.heap.size w)
 have H : ((a_G.f k).bind fun t314 => (if t314 = true then (a_b.l0 k l0 l1 l0 (l0.length : Int) 0) else (some false))) = some r:=h
 clear h
 replace H:=Option.bind_eq_some_iff.mp H
 obtain ⟨t314,A30,H⟩:=H
 replace H : (if t314 = true then (a_b.l0 k l0 l1 l0 (l0.length : Int) 0) else (some false)) = some r:=H
 have A3:=a_a.mk A30
 clear A30
 by_cases c4 : t314 = true
 rotate_left
 ·replace c4:=Bool.eq_false_iff.mpr c4
  subst c4
  have H1 : (some false) = some r:=by rw [if_neg (show ¬ (false = true) by decide)] at H;exact H
  clear H
  have H:=H1
  clear H1
  obtain rfl:=Option.some.inj H
  go_enter Try.func5,Try.ntmps5
  go_wp2_with (first|((with_reducible refine a_B (f:=9) rfl ?_);refine b_f (some 21) rfl rfl Try.func9 (by kernel_rfl) rfl #[] rfl (by (try simp only [List.map_toArray,List.map_cons,List.map_nil]);first|done|rfl|(simp only [List.length_drop,List.length_take];rfl)) ?_;(with_reducible refine (a_G.calls k  false _ A3.out).mono ?_);rintro e w205 ⟨rfl,hb⟩;refine ⟨_,rfl,?_⟩;replace HB:=a_a.mk (a_i (lup_ HB.out) hb);(try clear hb);(try clear hb2);(try clear hk);(try clear hi)))
  go_ret
  exact ⟨by first|rfl|(simp [a_z,a_A] <;> rfl)|(simp [*, a_z,a_A] <;> rfl),by repeat (first|(with_reducible first|exact HB.out|apply a_f|apply a_d|apply a_g)|exact HB.out)⟩
 subst c4
 have H1 : (a_b.l0 k l0 l1 l0 (l0.length : Int) 0) = some r:=by rw [if_pos rfl] at H;exact H
 clear H
 have H:=H1
 clear H1
 have H':=a_a.mk H
 clear H
 go_enter Try.func5,Try.ntmps5
 go_wp2_with (first|((with_reducible refine a_B (f:=9) rfl ?_);refine b_f (some 21) rfl rfl Try.func9 (by kernel_rfl) rfl #[] rfl (by (try simp only [List.map_toArray,List.map_cons,List.map_nil]);first|done|rfl|(simp only [List.length_drop,List.length_take];rfl)) ?_;(with_reducible refine (a_G.calls k  true _ A3.out).mono ?_);rintro e w5 ⟨rfl,hb⟩;refine ⟨_,rfl,?_⟩;replace HB:=a_a.mk (a_i (lup_ HB.out) hb);(try clear hb);(try clear hb2);(try clear hk);(try clear hi)))
 go_loopg [25] k (fun kq v25 w' => ∃ (x25_1 : Int),v25 = .int .i64 x25_1 ∧ a_a (a_b.l0 kq l0 l1 l0 (l0.length : Int) x25_1 = some r) ∧ a_a (kq ≤ k) ∧ a_a (Below w.heap.size w w'))
 case atStart => exact ⟨(0),(by first|rfl|(simp;done)|(simp [*];done)),H',⟨Nat.le_refl _⟩,⟨by repeat (first|(with_reducible first|exact HB.out|apply a_f|apply a_d|apply a_g)|exact HB.out)⟩⟩
 case round =>
  clear H'
  try clear c1
  try clear p2
  try clear c4
  try clear c5
  obtain ⟨x25_1,rfl,HA,HK1,HB⟩:=hrel
  cases gk with
  | zero => exact absurd HA.out (by simp [a_b.l0])
  | succ k1 =>
   have H:=HA.out
   clear HA
   simp only [a_b.l0] at H
   by_cases c6 : x25_1 < (l0.length : Int)
   rotate_left
   ·rw [if_neg c6] at H
    have c6b0 : decide (x25_1 < (l0.length : Int)) = false:=decide_eq_false c6
    clear c6
    obtain rfl:=Option.some.inj H
    go_wp2
    go_ret
    exact ⟨by first|rfl|(simp [a_z,a_A] <;> rfl)|(simp [*, a_z,a_A] <;> rfl),by repeat (first|(with_reducible first|exact HB.out|apply a_f|apply a_d|apply a_g)|exact HB.out)⟩
   rw [if_pos c6] at H
   have c6b0 : decide (x25_1 < (l0.length : Int)) = true:=decide_eq_true c6
   clear c6
   by_cases c7 : 0 ≤ x25_1
   rotate_left
   ·rw [if_neg c7] at H
    exact absurd H (by simp)
   rw [if_pos c7] at H
   have c7b0 : decide (0 ≤ x25_1) = true:=decide_eq_true c7
   clear c7
   by_cases c8 : x25_1 < (l0.length : Int)
   rotate_left
   ·rw [if_neg c8] at H
    exact absurd H (by simp)
   rw [if_pos c8] at H
   have c8b0 : decide (x25_1 < (l0.length : Int)) = true:=decide_eq_true c8
   clear c8
   by_cases c9 : x25_1 = 8
   ·rw [if_pos c9] at H
    have c9b0 : (x25_1 == 8) = true:=beq_iff_eq.mpr c9
    have c9b1 : (x25_1 != 8) = false:=bne_eq_false_iff_eq.mpr c9
    clear c9
    obtain rfl:=Option.some.inj H
    have p315 : 0 ≤ (x25_1 : Int):=of_decide_eq_true (by first|(with_reducible assumption)|assumption)
    have q315 : x25_1 < (l0.length : Int):=of_decide_eq_true (by first|(with_reducible assumption)|assumption)
    obtain ⟨ad315,A315_0,c315_0,e315,c_6,d_Y,d_Z⟩:=f_X HR0.out x25_1 p315 q315
    cases e315
    replace c_6:=(HB.out.cell (World.block_lt_of_cell? w _ c_6)).trans c_6
    have c_7:=a_a.mk d_Z
    have c_8:=a_a.mk d_Y
    clear d_Z d_Y
    replace p315:=eq_true p315
    replace q315:=eq_true q315
    go_wp2_with (first|((with_reducible refine a_E (N:=6) rfl ?_);refine a_D ?hg (N:=6) ?hd (cs:=#[.slice none 0 0]) (t:=26) ?hr ?_;(case hd => rfl);(case hg => rfl);(case hr => first|(go_simp;done)|(go_simp;rfl));intro a_V hg w10 hbox hb;have a_C:=a_a.mk (hbox);have k_r:=a_a.mk ((by rw [hg];exact (a_m (lup_ HB.out)) : w.heap.size ≤ a_V));have a_P:=a_a.mk ((by rw [hg];exact (a_m (lup_ HB.out)) : w.heap.size ≤ a_V));replace HB:=a_a.mk (a_i (lup_ HB.out) hb);clear hb hbox hg;have g_f : w10.cell? ⟨a_V,0,none⟩ = some (.slice none 0 0):=(a_j a_C.out 0).trans rfl;have g_g:=a_k a_C.out 0))
    go_ret
    exact ⟨by first|rfl|(simp [a_z,a_A] <;> rfl)|(simp [*, a_z,a_A] <;> rfl),by repeat (first|(with_reducible first|exact HB.out|apply a_f|apply a_d|apply a_g|refine a_c ?_ a_P.out)|exact HB.out)⟩
   rw [if_neg c9] at H
   have c9b0 : (x25_1 == 8) = false:=beq_eq_false_iff_ne.mpr c9
   have c9b1 : (x25_1 != 8) = true:=bne_iff_ne.mpr c9
   replace H:=Option.bind_eq_some_iff.mp H
   obtain ⟨t317,A120,H⟩:=H
   replace H : (if 0 < (l0.length : Int) then ((a_v.f ((a_L l0 0).f0)).bind fun t321 => ((a_h.f k1 t317).bind fun t326 => ((a_s.f k1 t317).bind fun t327 => (if ((t327 == 0) != t326) = true then (a_b.j1 k1 l0 l1 t326 l0 (l0.length : Int) x25_1 true t317) else (if t326 = true then ((a_O.f k1 t317 t321).bind fun t328 => ((a_o.f k1 t317 t321).bind fun t329 => (if (t328 != t329) = true then (a_b.j1 k1 l0 l1 t326 l0 (l0.length : Int) x25_1 true t317) else ((a_v.f ((a_L l0 x25_1).f0)).bind fun t330 => ((a_O.f k1 t317 t330).bind fun t333 => (a_b.j1 k1 l0 l1 t326 l0 (l0.length : Int) x25_1 (!t333) t317)))))) else (if t327 = 180 then ((a_O.f k1 t317 t321).bind fun t334 => ((a_o.f k1 t317 t321).bind fun t335 => (if (t334 != t335) = true then (a_b.j1 k1 l0 l1 t326 l0 (l0.length : Int) x25_1 true t317) else ((a_v.f ((a_L l0 x25_1).f0)).bind fun t336 => ((a_O.f k1 t317 t336).bind fun t339 => (a_b.j1 k1 l0 l1 t326 l0 (l0.length : Int) x25_1 (!t339) t317)))))) else (a_b.j1 k1 l0 l1 t326 l0 (l0.length : Int) x25_1 true t317))))))) else (none)) = some r:=H
   have A12:=a_a.mk A120
   clear A120
   by_cases c13 : 0 < (l0.length : Int)
   rotate_left
   ·rw [if_neg c13] at H
    exact absurd H (by simp)
   rw [if_pos c13] at H
   have c13b0 : decide (0 < (l0.length : Int)) = true:=decide_eq_true c13
   have c13b1 : decide (0 < l0.length) = true:=decide_eq_true (by omega)
   clear c13
   replace H:=Option.bind_eq_some_iff.mp H
   obtain ⟨t321,A140,H⟩:=H
   replace H : ((a_h.f k1 t317).bind fun t326 => ((a_s.f k1 t317).bind fun t327 => (if ((t327 == 0) != t326) = true then (a_b.j1 k1 l0 l1 t326 l0 (l0.length : Int) x25_1 true t317) else (if t326 = true then ((a_O.f k1 t317 t321).bind fun t328 => ((a_o.f k1 t317 t321).bind fun t329 => (if (t328 != t329) = true then (a_b.j1 k1 l0 l1 t326 l0 (l0.length : Int) x25_1 true t317) else ((a_v.f ((a_L l0 x25_1).f0)).bind fun t330 => ((a_O.f k1 t317 t330).bind fun t333 => (a_b.j1 k1 l0 l1 t326 l0 (l0.length : Int) x25_1 (!t333) t317)))))) else (if t327 = 180 then ((a_O.f k1 t317 t321).bind fun t334 => ((a_o.f k1 t317 t321).bind fun t335 => (if (t334 != t335) = true then (a_b.j1 k1 l0 l1 t326 l0 (l0.length : Int) x25_1 true t317) else ((a_v.f ((a_L l0 x25_1).f0)).bind fun t336 => ((a_O.f k1 t317 t336).bind fun t339 => (a_b.j1 k1 l0 l1 t326 l0 (l0.length : Int) x25_1 (!t339) t317)))))) else (a_b.j1 k1 l0 l1 t326 l0 (l0.length : Int) x25_1 true t317)))))) = some r:=H
   have A14:=a_a.mk A140
   clear A140
   replace H:=Option.bind_eq_some_iff.mp H
   obtain ⟨t326,A150,H⟩:=H
   replace H : ((a_s.f k1 t317).bind fun t327 => (if ((t327 == 0) != t326) = true then (a_b.j1 k1 l0 l1 t326 l0 (l0.length : Int) x25_1 true t317) else (if t326 = true then ((a_O.f k1 t317 t321).bind fun t328 => ((a_o.f k1 t317 t321).bind fun t329 => (if (t328 != t329) = true then (a_b.j1 k1 l0 l1 t326 l0 (l0.length : Int) x25_1 true t317) else ((a_v.f ((a_L l0 x25_1).f0)).bind fun t330 => ((a_O.f k1 t317 t330).bind fun t333 => (a_b.j1 k1 l0 l1 t326 l0 (l0.length : Int) x25_1 (!t333) t317)))))) else (if t327 = 180 then ((a_O.f k1 t317 t321).bind fun t334 => ((a_o.f k1 t317 t321).bind fun t335 => (if (t334 != t335) = true then (a_b.j1 k1 l0 l1 t326 l0 (l0.length : Int) x25_1 true t317) else ((a_v.f ((a_L l0 x25_1).f0)).bind fun t336 => ((a_O.f k1 t317 t336).bind fun t339 => (a_b.j1 k1 l0 l1 t326 l0 (l0.length : Int) x25_1 (!t339) t317)))))) else (a_b.j1 k1 l0 l1 t326 l0 (l0.length : Int) x25_1 true t317))))) = some r:=H
   have A15:=a_a.mk A150
   clear A150
   replace H:=Option.bind_eq_some_iff.mp H
   obtain ⟨t327,A160,H⟩:=H
   replace H : (if ((t327 == 0) != t326) = true then (a_b.j1 k1 l0 l1 t326 l0 (l0.length : Int) x25_1 true t317) else (if t326 = true then ((a_O.f k1 t317 t321).bind fun t328 => ((a_o.f k1 t317 t321).bind fun t329 => (if (t328 != t329) = true then (a_b.j1 k1 l0 l1 t326 l0 (l0.length : Int) x25_1 true t317) else ((a_v.f ((a_L l0 x25_1).f0)).bind fun t330 => ((a_O.f k1 t317 t330).bind fun t333 => (a_b.j1 k1 l0 l1 t326 l0 (l0.length : Int) x25_1 (!t333) t317)))))) else (if t327 = 180 then ((a_O.f k1 t317 t321).bind fun t334 => ((a_o.f k1 t317 t321).bind fun t335 => (if (t334 != t335) = true then (a_b.j1 k1 l0 l1 t326 l0 (l0.length : Int) x25_1 true t317) else ((a_v.f ((a_L l0 x25_1).f0)).bind fun t336 => ((a_O.f k1 t317 t336).bind fun t339 => (a_b.j1 k1 l0 l1 t326 l0 (l0.length : Int) x25_1 (!t339) t317)))))) else (a_b.j1 k1 l0 l1 t326 l0 (l0.length : Int) x25_1 true t317)))) = some r:=H
   have A16:=a_a.mk A160
   clear A160
   have HC17:=a_a.mk H
   clear H
   have p315 : 0 ≤ (x25_1 : Int):=of_decide_eq_true (by first|(with_reducible assumption)|assumption)
   have q315 : x25_1 < (l0.length : Int):=of_decide_eq_true (by first|(with_reducible assumption)|assumption)
   obtain ⟨ad315,A315_0,c315_0,e315,c_6,d_Y,d_Z⟩:=f_X HR0.out x25_1 p315 q315
   cases e315
   replace c_6:=(HB.out.cell (World.block_lt_of_cell? w _ c_6)).trans c_6
   have c_7:=a_a.mk d_Z
   have c_8:=a_a.mk d_Y
   clear d_Z d_Y
   replace p315:=eq_true p315
   replace q315:=eq_true q315
   try go_wp2_with (first|((with_reducible refine a_E (N:=6) rfl ?_);refine a_D ?hg (N:=6) ?hd (cs:=#[.slice none 0 0]) (t:=26) ?hr ?_;(case hd => rfl);(case hg => rfl);(case hr => first|(go_simp;done)|(go_simp;rfl));intro a_V hg w18 hbox hb;have a_C:=a_a.mk (hbox);have k_r:=a_a.mk ((by rw [hg];exact (a_m (lup_ HB.out)) : w.heap.size ≤ a_V));have a_P:=a_a.mk ((by rw [hg];exact (a_m (lup_ HB.out)) : w.heap.size ≤ a_V));replace HB:=a_a.mk (a_i (lup_ HB.out) hb);clear hb hbox hg;have f_d : w18.cell? ⟨a_V,0,none⟩ = some (.slice none 0 0):=(a_j a_C.out 0).trans rfl;have f_e:=a_k a_C.out 0))
   have n0_ : a_a ((w18.setCell ⟨a_V,0,none⟩ (.slice A315_0 ((a_L l0 x25_1).f0).length c315_0)).heap[a_V]? = some (.cells #[.slice A315_0 ((a_L l0 x25_1).f0).length c315_0] 26 (0,0))):=⟨by (with_reducible repeat (first|refine a_u ?_ _|refine a_t ?_|refine a_w ?_ _));refine b_q (cs:=#[.slice none 0 0]) ?_ 0 _ rfl;(with_reducible repeat (first|refine a_u ?_ _|refine a_t ?_|refine a_w ?_ _));exact a_C.out⟩
   have n1_ : a_a (Below w.heap.size w (w18.setCell ⟨a_V,0,none⟩ (.slice A315_0 ((a_L l0 x25_1).f0).length c315_0))):=⟨by repeat (first|(with_reducible first|exact HB.out|apply a_f|apply a_d|apply a_g|refine a_c ?_ a_P.out)|exact HB.out)⟩
   (try clear a_C)
   (try clear HB)
   generalize (w18.setCell ⟨a_V,0,none⟩ (.slice A315_0 ((a_L l0 x25_1).f0).length c315_0)) = w20 at n0_ n1_ ⊢
   have a_C:=n0_
   have HB:=n1_
   clear n0_ n1_
   replace a_C:=a_a.mk (a_t a_C.out)
   replace HB:=a_a.mk (a_g HB.out)
   have p320 : 0 ≤ (0 : Int):=(by omega)
   have q320 : 0 < (l0.length : Int):=of_decide_eq_true (by first|(with_reducible assumption)|assumption)
   obtain ⟨ad320,A320_0,c320_0,e320,c_9,g_E,g_F⟩:=f_X HR0.out 0 p320 q320
   have b_a:=c_9
   (try rw [show ((0 : Int)).toNat = 0 from rfl] at b_a)
   (try rw [show 0 * 1 = 0 from rfl] at b_a)
   (try rw [Addr.add_zero'] at b_a)
   obtain rfl : ad315 = ad320:=(by injection e320)
   have qi320 : (0 < l0.length) = True:=eq_true (by omega)
   (try rw [show ((0 : Int)).toNat = 0 from rfl] at c_9)
   (try rw [Addr.add_zero'] at c_9)
   replace c_9:=(HB.out.cell (World.block_lt_of_cell? w _ c_9)).trans c_9
   have d_0:=a_a.mk g_F
   have e_y:=a_a.mk g_E
   clear g_F g_E
   replace p320:=eq_true p320
   replace q320:=eq_true q320
   refine d_P (n:=10) (S:=fun w' => w'.cell? ⟨a_V,0,none⟩ = some (.slice A315_0 ((a_L l0 x25_1).f0).length c315_0) ∧ w'.cell? ad315 = some (.slice A320_0 ((a_L l0 0).f0).length c320_0)) (ds:=[]) #[F_,F_,F_,F_,F_,F_,F_,F_,F_,F_] (by kernel_rfl) rfl rfl ⟨(a_j a_C.out 0).trans rfl,((HB.out.cell (World.block_lt_of_cell? w _ b_a)).trans b_a)⟩ (fun hHeld => ?_);refine c_o a_b.tab7 a_b.j_4 (fun HT_ HW_ => ?_)
   generalize w20.drew = w21 at a_C HB d_0 c_9 hHeld ⊢
   refine a_U (i:=2) (N:=some 34) (v:=?_) (a':=?_) #[F_,F_,T_,F_,F_,F_,F_,F_,F_,F_] rfl rfl (a_H HT_.out (by kernel_rfl)) (fun _ _ _ h => h) (Or.inl ⟨by rfl,?_⟩) ?_ ?_
   rotate_left
   ·intro w'
    go_simp
    with_reducible rfl
   rotate_left
   ·simp only [Act.put,List.setIfInBounds_toArray,List.set_cons_zero,List.set_cons_succ,a_K,a_J]
    rfl
   refine a_U (i:=3) (N:=some 35) (v:=?_) (a':=?_) #[F_,F_,T_,T_,F_,F_,F_,F_,F_,F_] rfl rfl (a_H HT_.out (by kernel_rfl)) (fun _ _ _ h => h) (Or.inl ⟨by rfl,?_⟩) ?_ ?_
   rotate_left
   ·intro w'
    go_simp
    with_reducible rfl
   rotate_left
   ·simp only [Act.put,List.setIfInBounds_toArray,List.set_cons_zero,List.set_cons_succ,a_K,a_J]
    rfl
   refine c_f (i:=0) (N:=some 32) (v:=?_) (a':=?_) #[T_,F_,T_,T_,F_,F_,F_,F_,F_,F_] rfl rfl (b_B HT_.out HW_.out (by kernel_rfl)) (fun _ _ _ h => h) (Or.inl ⟨by rfl,?_⟩) hHeld ?_ ?_
   rotate_left
   ·rintro w' ⟨s0,s1⟩
    go_simp
    with_reducible rfl
   rotate_left
   ·simp only [Act.put,List.setIfInBounds_toArray,List.set_cons_zero,List.set_cons_succ,a_K,a_J]
    rfl
   refine c_f (i:=4) (N:=some 36) (v:=?_) (a':=?_) #[T_,F_,T_,T_,T_,F_,F_,F_,F_,F_] rfl rfl (b_B HT_.out HW_.out (by kernel_rfl)) (fun _ _ _ h => h) (Or.inl ⟨by rfl,?_⟩) hHeld ?_ ?_
   rotate_left
   ·rintro w' ⟨s0,s1⟩
    go_simp
    with_reducible rfl
   rotate_left
   ·simp only [Act.put,List.setIfInBounds_toArray,List.set_cons_zero,List.set_cons_succ,a_K,a_J]
    rfl
   refine d_I (σ:=Value × Value × Nat × Nat) 2 #[T_,T_,T_,T_,T_,T_,T_,T_,F_,F_] (fun s_ => [(33,.agg #[s_.1]),(37,.agg #[s_.2.1]),(7,.pointer (some ⟨s_.2.2.1,0,none⟩)),(8,.pointer (some ⟨s_.2.2.2,0,none⟩))]) (fun s_ w' => (w'.cell? ⟨a_V,0,none⟩ = some (.slice A315_0 ((a_L l0 x25_1).f0).length c315_0) ∧ w'.cell? ad315 = some (.slice A320_0 ((a_L l0 0).f0).length c320_0)) ∧ (Kd.R (Kd.int .u32) 31 w' w.heap.size (fun k_ => some k_ ≠ (s_.2.1 : Value).ownBlock) s_.1 t317) ∧ (Kd.R (Kd.int .u32) 31 w' w.heap.size (fun k_ => some k_ ≠ (s_.1 : Value).ownBlock) s_.2.1 t321) ∧ (w'.heap[a_V]? = some (.cells #[.slice A315_0 ((a_L l0 x25_1).f0).length c315_0] 26 (0,0))) ∧ (w'.heap[s_.2.2.1]? = some (.cells #[.slice none 0 0] 26 (0,0))) ∧ (w'.heap[s_.2.2.2]? = some (.cells #[.slice none 0 0] 26 (0,0))) ∧ (w.heap.size ≤ s_.2.2.1) ∧ (w.heap.size ≤ s_.2.2.1) ∧ (a_V ≠ s_.2.2.1) ∧ (s_.2.2.1 ≠ a_V) ∧ (s_.2.2.2 ≠ s_.2.2.1) ∧ (s_.2.2.1 ≠ s_.2.2.2) ∧ (w.heap.size ≤ s_.2.2.2) ∧ (w.heap.size ≤ s_.2.2.2) ∧ (a_V ≠ s_.2.2.2) ∧ (s_.2.2.2 ≠ a_V) ∧ (Below w.heap.size w w')) ?_ ?_
   rotate_left
   ·intro d_1
    refine d_I (σ:=Value × Value × Nat) 3 #[T_,T_,T_,T_,T_,T_,T_,F_,F_,F_] (fun s_ => [(33,.agg #[s_.1]),(37,.agg #[s_.2.1]),(7,.pointer (some ⟨s_.2.2,0,none⟩))]) (fun s_ w' => (w'.cell? ⟨a_V,0,none⟩ = some (.slice A315_0 ((a_L l0 x25_1).f0).length c315_0) ∧ w'.cell? ad315 = some (.slice A320_0 ((a_L l0 0).f0).length c320_0)) ∧ (Kd.R (Kd.int .u32) 31 w' w.heap.size (fun k_ => some k_ ≠ (s_.2.1 : Value).ownBlock) s_.1 t317) ∧ (Kd.R (Kd.int .u32) 31 w' w.heap.size (fun k_ => some k_ ≠ (s_.1 : Value).ownBlock) s_.2.1 t321) ∧ (w'.heap[a_V]? = some (.cells #[.slice A315_0 ((a_L l0 x25_1).f0).length c315_0] 26 (0,0))) ∧ (w'.heap[s_.2.2]? = some (.cells #[.slice none 0 0] 26 (0,0))) ∧ (w.heap.size ≤ s_.2.2) ∧ (w.heap.size ≤ s_.2.2) ∧ (a_V ≠ s_.2.2) ∧ (s_.2.2 ≠ a_V) ∧ (Below w.heap.size w w')) ?_ ?_
    rotate_left
    ·intro g_G
     refine d_I (σ:=Value × Value × Nat) 3 #[T_,T_,T_,T_,T_,T_,F_,T_,F_,F_] (fun s_ => [(33,.agg #[s_.1]),(37,.agg #[s_.2.1]),(8,.pointer (some ⟨s_.2.2,0,none⟩))]) (fun s_ w' => (w'.cell? ⟨a_V,0,none⟩ = some (.slice A315_0 ((a_L l0 x25_1).f0).length c315_0) ∧ w'.cell? ad315 = some (.slice A320_0 ((a_L l0 0).f0).length c320_0)) ∧ (Kd.R (Kd.int .u32) 31 w' w.heap.size (fun k_ => some k_ ≠ (s_.2.1 : Value).ownBlock) s_.1 t317) ∧ (Kd.R (Kd.int .u32) 31 w' w.heap.size (fun k_ => some k_ ≠ (s_.1 : Value).ownBlock) s_.2.1 t321) ∧ (w'.heap[a_V]? = some (.cells #[.slice A315_0 ((a_L l0 x25_1).f0).length c315_0] 26 (0,0))) ∧ (w'.heap[s_.2.2]? = some (.cells #[.slice none 0 0] 26 (0,0))) ∧ (w.heap.size ≤ s_.2.2) ∧ (w.heap.size ≤ s_.2.2) ∧ (a_V ≠ s_.2.2) ∧ (s_.2.2 ≠ a_V) ∧ (Below w.heap.size w w')) ?_ ?_
     rotate_left
     ·intro g_H
      refine d_I (σ:=Value × Nat × Nat) 3 #[T_,T_,T_,T_,T_,F_,T_,T_,F_,F_] (fun s_ => [(33,.agg #[s_.1]),(7,.pointer (some ⟨s_.2.1,0,none⟩)),(8,.pointer (some ⟨s_.2.2,0,none⟩))]) (fun s_ w' => (w'.cell? ⟨a_V,0,none⟩ = some (.slice A315_0 ((a_L l0 x25_1).f0).length c315_0) ∧ w'.cell? ad315 = some (.slice A320_0 ((a_L l0 0).f0).length c320_0)) ∧ (Kd.R (Kd.int .u32) 31 w' w.heap.size (fun _ => True) s_.1 t317) ∧ (w'.heap[a_V]? = some (.cells #[.slice A315_0 ((a_L l0 x25_1).f0).length c315_0] 26 (0,0))) ∧ (w'.heap[s_.2.1]? = some (.cells #[.slice none 0 0] 26 (0,0))) ∧ (w'.heap[s_.2.2]? = some (.cells #[.slice none 0 0] 26 (0,0))) ∧ (w.heap.size ≤ s_.2.1) ∧ (w.heap.size ≤ s_.2.1) ∧ (a_V ≠ s_.2.1) ∧ (s_.2.1 ≠ a_V) ∧ (s_.2.2 ≠ s_.2.1) ∧ (s_.2.1 ≠ s_.2.2) ∧ (w.heap.size ≤ s_.2.2) ∧ (w.heap.size ≤ s_.2.2) ∧ (a_V ≠ s_.2.2) ∧ (s_.2.2 ≠ a_V) ∧ (Below w.heap.size w w')) ?_ ?_
      rotate_left
      ·intro f_j
       refine d_I (σ:=Value × Value) 4 #[T_,T_,T_,T_,T_,T_,F_,F_,F_,F_] (fun s_ => [(33,.agg #[s_.1]),(37,.agg #[s_.2])]) (fun s_ w' => (w'.cell? ⟨a_V,0,none⟩ = some (.slice A315_0 ((a_L l0 x25_1).f0).length c315_0) ∧ w'.cell? ad315 = some (.slice A320_0 ((a_L l0 0).f0).length c320_0)) ∧ (Kd.R (Kd.int .u32) 31 w' w.heap.size (fun k_ => some k_ ≠ (s_.2 : Value).ownBlock) s_.1 t317) ∧ (Kd.R (Kd.int .u32) 31 w' w.heap.size (fun k_ => some k_ ≠ (s_.1 : Value).ownBlock) s_.2 t321) ∧ (w'.heap[a_V]? = some (.cells #[.slice A315_0 ((a_L l0 x25_1).f0).length c315_0] 26 (0,0))) ∧ (Below w.heap.size w w')) ?_ ?_
       rotate_left
       ·intro k_s
        refine d_I (σ:=Value × Nat) 4 #[T_,T_,T_,T_,T_,F_,T_,F_,F_,F_] (fun s_ => [(33,.agg #[s_.1]),(7,.pointer (some ⟨s_.2,0,none⟩))]) (fun s_ w' => (w'.cell? ⟨a_V,0,none⟩ = some (.slice A315_0 ((a_L l0 x25_1).f0).length c315_0) ∧ w'.cell? ad315 = some (.slice A320_0 ((a_L l0 0).f0).length c320_0)) ∧ (Kd.R (Kd.int .u32) 31 w' w.heap.size (fun _ => True) s_.1 t317) ∧ (w'.heap[a_V]? = some (.cells #[.slice A315_0 ((a_L l0 x25_1).f0).length c315_0] 26 (0,0))) ∧ (w'.heap[s_.2]? = some (.cells #[.slice none 0 0] 26 (0,0))) ∧ (w.heap.size ≤ s_.2) ∧ (w.heap.size ≤ s_.2) ∧ (a_V ≠ s_.2) ∧ (s_.2 ≠ a_V) ∧ (Below w.heap.size w w')) ?_ ?_
        rotate_left
        ·intro i_I
         refine d_I (σ:=Value × Nat) 4 #[T_,T_,T_,T_,T_,F_,F_,T_,F_,F_] (fun s_ => [(33,.agg #[s_.1]),(8,.pointer (some ⟨s_.2,0,none⟩))]) (fun s_ w' => (w'.cell? ⟨a_V,0,none⟩ = some (.slice A315_0 ((a_L l0 x25_1).f0).length c315_0) ∧ w'.cell? ad315 = some (.slice A320_0 ((a_L l0 0).f0).length c320_0)) ∧ (Kd.R (Kd.int .u32) 31 w' w.heap.size (fun _ => True) s_.1 t317) ∧ (w'.heap[a_V]? = some (.cells #[.slice A315_0 ((a_L l0 x25_1).f0).length c315_0] 26 (0,0))) ∧ (w'.heap[s_.2]? = some (.cells #[.slice none 0 0] 26 (0,0))) ∧ (w.heap.size ≤ s_.2) ∧ (w.heap.size ≤ s_.2) ∧ (a_V ≠ s_.2) ∧ (s_.2 ≠ a_V) ∧ (Below w.heap.size w w')) ?_ ?_
         rotate_left
         ·intro i_J
          refine d_I (σ:=Nat × Nat) 4 #[T_,F_,T_,T_,T_,F_,T_,T_,F_,F_] (fun s_ => [(7,.pointer (some ⟨s_.1,0,none⟩)),(8,.pointer (some ⟨s_.2,0,none⟩))]) (fun s_ w' => (w'.cell? ⟨a_V,0,none⟩ = some (.slice A315_0 ((a_L l0 x25_1).f0).length c315_0) ∧ w'.cell? ad315 = some (.slice A320_0 ((a_L l0 0).f0).length c320_0)) ∧ (w'.heap[a_V]? = some (.cells #[.slice A315_0 ((a_L l0 x25_1).f0).length c315_0] 26 (0,0))) ∧ (w'.heap[s_.1]? = some (.cells #[.slice none 0 0] 26 (0,0))) ∧ (w'.heap[s_.2]? = some (.cells #[.slice none 0 0] 26 (0,0))) ∧ (w.heap.size ≤ s_.1) ∧ (w.heap.size ≤ s_.1) ∧ (a_V ≠ s_.1) ∧ (s_.1 ≠ a_V) ∧ (s_.2 ≠ s_.1) ∧ (s_.1 ≠ s_.2) ∧ (w.heap.size ≤ s_.2) ∧ (w.heap.size ≤ s_.2) ∧ (a_V ≠ s_.2) ∧ (s_.2 ≠ a_V) ∧ (Below w.heap.size w w')) ?_ ?_
          rotate_left
          ·intro i_K
           refine d_I (σ:=Value) 5 #[T_,T_,T_,T_,T_,F_,F_,F_,F_,F_] (fun s_ => [(33,.agg #[s_])]) (fun s_ w' => (w'.cell? ⟨a_V,0,none⟩ = some (.slice A315_0 ((a_L l0 x25_1).f0).length c315_0) ∧ w'.cell? ad315 = some (.slice A320_0 ((a_L l0 0).f0).length c320_0)) ∧ (Kd.R (Kd.int .u32) 31 w' w.heap.size (fun _ => True) s_ t317) ∧ (w'.heap[a_V]? = some (.cells #[.slice A315_0 ((a_L l0 x25_1).f0).length c315_0] 26 (0,0))) ∧ (Below w.heap.size w w')) ?_ ?_
           rotate_left
           ·intro hJ1
            refine d_I (σ:=Nat) 5 #[T_,F_,T_,T_,T_,F_,T_,F_,F_,F_] (fun s_ => [(7,.pointer (some ⟨s_,0,none⟩))]) (fun s_ w' => (w'.cell? ⟨a_V,0,none⟩ = some (.slice A315_0 ((a_L l0 x25_1).f0).length c315_0) ∧ w'.cell? ad315 = some (.slice A320_0 ((a_L l0 0).f0).length c320_0)) ∧ (w'.heap[a_V]? = some (.cells #[.slice A315_0 ((a_L l0 x25_1).f0).length c315_0] 26 (0,0))) ∧ (w'.heap[s_]? = some (.cells #[.slice none 0 0] 26 (0,0))) ∧ (w.heap.size ≤ s_) ∧ (w.heap.size ≤ s_) ∧ (a_V ≠ s_) ∧ (s_ ≠ a_V) ∧ (Below w.heap.size w w')) ?_ ?_
            rotate_left
            ·intro hJ6
             refine d_I (σ:=Nat) 5 #[T_,F_,T_,T_,T_,F_,F_,T_,F_,F_] (fun s_ => [(8,.pointer (some ⟨s_,0,none⟩))]) (fun s_ w' => (w'.cell? ⟨a_V,0,none⟩ = some (.slice A315_0 ((a_L l0 x25_1).f0).length c315_0) ∧ w'.cell? ad315 = some (.slice A320_0 ((a_L l0 0).f0).length c320_0)) ∧ (w'.heap[a_V]? = some (.cells #[.slice A315_0 ((a_L l0 x25_1).f0).length c315_0] 26 (0,0))) ∧ (w'.heap[s_]? = some (.cells #[.slice none 0 0] 26 (0,0))) ∧ (w.heap.size ≤ s_) ∧ (w.heap.size ≤ s_) ∧ (a_V ≠ s_) ∧ (s_ ≠ a_V) ∧ (Below w.heap.size w w')) ?_ ?_
             rotate_left
             ·intro hJ7
              refine h_h (i:=1) (j:=6) (k:=7) (Ni:=some 33) (Nj:=some 7) (Nk:=some 8) #[T_,T_,T_,T_,T_,F_,F_,F_,F_,F_] #[T_,F_,T_,T_,T_,F_,T_,F_,F_,F_] #[T_,F_,T_,T_,T_,F_,F_,T_,F_,F_] rfl rfl rfl rfl rfl rfl (f_n HT_.out (by kernel_rfl)) (by decide) (by decide) (by decide) (fun K hK => ?_) (fun K hK => ?_) (fun K hK => ?_)
              ·skip
               refine c_v Try.func11 (by kernel_rfl) rfl #[.agg #[.slice A315_0 ((a_L l0 x25_1).f0).length c315_0]] (by rfl) rfl rfl (by (try simp only [List.map_toArray,List.map_cons,List.map_nil]);first|done|rfl|(simp only [List.length_drop,List.length_take];rfl)) ?_
               with_reducible refine (a_v.calls _ _ ((a_L l0 x25_1).f0) t317 _ ?side1 ?side2 A12.out).mono ?_
               (case side1 => repeat (first|exact (Kd.a_8 c_7.out HB.out)|(with_reducible refine Kd.a_M ?_ _)|(with_reducible refine Kd.a_N ?_ _)|(with_reducible refine Kd.a_T ?_)))
               (case side2 => exact c_8.out)
               rintro e w22 ⟨v318,rfl,ho0,hb⟩
               refine ⟨_,rfl,?_⟩
               have a_W:=a_a.mk (Kd.b_y ho0 (a_m (by repeat (first|(with_reducible first|exact HB.out|apply a_f|apply a_d|apply a_g|refine a_c ?_ a_P.out)|exact HB.out))))
               replace a_C:=a_a.mk (a_e (bup_ a_C.out) hb)
               replace HB:=a_a.mk (a_i (by repeat (first|(with_reducible first|exact HB.out|apply a_f|apply a_d|apply a_g|refine a_c ?_ a_P.out)|exact HB.out)) hb)
               (try clear hb)
               (try clear hb2)
               (try clear hk)
               (try clear hi)
               (try clear ho0)
               refine hK.out _ _ ⟨(a_j a_C.out 0).trans rfl,((HB.out.cell (World.block_lt_of_cell? w _ b_a)).trans b_a)⟩ (fun hHeld => ?_)
               clear hK K
               refine b_x (a':=?_) ?_ ?_
               rotate_left
               ·show Act.put _ (some 33) _ = _
                simp only [Act.put,List.setIfInBounds_toArray,List.set_cons_zero,List.set_cons_succ,a_K,a_J]
                rfl
               exact b_x (by first|(simp only [b_n,Act.put,List.setIfInBounds_toArray,List.set_cons_zero,List.set_cons_succ];done)|(simp only [b_n,Act.put,List.setIfInBounds_toArray,List.set_cons_zero,List.set_cons_succ];rfl)) (hJ1 (v318) _ ⟨hHeld,(rup_ a_W.out),(bup_ a_C.out),(by repeat (first|(with_reducible first|exact HB.out|apply a_f|apply a_d|apply a_g|refine a_c ?_ a_P.out)|exact HB.out))⟩)
              ·skip
               refine b_2 ?hg (N:=7) ?hd (cs:=#[.slice none 0 0]) (t:=26) ?hr ?_;(case hd => rfl);(case hg => rfl);(case hr => first|(go_simp;done)|(go_simp;rfl))
               intro a_R hg w22 hbox hb
               have a_x:=a_a.mk (hbox)
               have b_8:=a_a.mk ((by rw [hg];exact (a_m (by repeat (first|(with_reducible first|exact HB.out|apply a_f|apply a_d|apply a_g|refine a_c ?_ a_P.out)|exact HB.out))) : w.heap.size ≤ a_R))
               have a_X:=a_a.mk ((by rw [hg];exact (a_m (by repeat (first|(with_reducible first|exact HB.out|apply a_f|apply a_d|apply a_g|refine a_c ?_ a_P.out)|exact HB.out))) : w.heap.size ≤ a_R))
               have a_Z:=a_a.mk ((by rw [hg];exact Nat.ne_of_lt (a_p (bup_ a_C.out)) : a_V ≠ a_R))
               have a_3:=a_a.mk ((by rw [hg];exact Nat.ne_of_gt (a_p (bup_ a_C.out)) : a_R ≠ a_V))
               replace a_C:=a_a.mk (a_e (bup_ a_C.out) hb)
               replace HB:=a_a.mk (a_i (by repeat (first|(with_reducible first|exact HB.out|apply a_f|apply a_d|apply a_g|refine a_c ?_ a_P.out)|exact HB.out)) hb)
               clear hb hbox hg
               refine hK.out _ _ ⟨(a_j a_C.out 0).trans rfl,((HB.out.cell (World.block_lt_of_cell? w _ b_a)).trans b_a)⟩ (fun hHeld => ?_)
               clear hK K
               refine b_x (a':=?_) ?_ ?_
               rotate_left
               ·show Act.put _ (some 7) _ = _
                simp only [Act.put,List.setIfInBounds_toArray,List.set_cons_zero,List.set_cons_succ,a_K,a_J]
                rfl
               exact b_x (by first|(simp only [b_n,Act.put,List.setIfInBounds_toArray,List.set_cons_zero,List.set_cons_succ];done)|(simp only [b_n,Act.put,List.setIfInBounds_toArray,List.set_cons_zero,List.set_cons_succ];rfl)) (hJ6 (a_R) _ ⟨hHeld,(bup_ a_C.out),(bup_ a_x.out),b_8.out,a_X.out,a_Z.out,a_3.out,(by repeat (first|(with_reducible first|exact HB.out|apply a_f|apply a_d|apply a_g|refine a_c ?_ a_P.out|refine a_c ?_ a_X.out)|exact HB.out))⟩)
              skip
              refine b_2 ?hg (N:=8) ?hd (cs:=#[.slice none 0 0]) (t:=26) ?hr ?_;(case hd => rfl);(case hg => rfl);(case hr => first|(go_simp;done)|(go_simp;rfl))
              intro a_7 hg w22 hbox hb
              have a_I:=a_a.mk (hbox)
              have b_9:=a_a.mk ((by rw [hg];exact (a_m (by repeat (first|(with_reducible first|exact HB.out|apply a_f|apply a_d|apply a_g|refine a_c ?_ a_P.out)|exact HB.out))) : w.heap.size ≤ a_7))
              have a_Y:=a_a.mk ((by rw [hg];exact (a_m (by repeat (first|(with_reducible first|exact HB.out|apply a_f|apply a_d|apply a_g|refine a_c ?_ a_P.out)|exact HB.out))) : w.heap.size ≤ a_7))
              have b_m:=a_a.mk ((by rw [hg];exact Nat.ne_of_lt (a_p (bup_ a_C.out)) : a_V ≠ a_7))
              have b_r:=a_a.mk ((by rw [hg];exact Nat.ne_of_gt (a_p (bup_ a_C.out)) : a_7 ≠ a_V))
              replace a_C:=a_a.mk (a_e (bup_ a_C.out) hb)
              replace HB:=a_a.mk (a_i (by repeat (first|(with_reducible first|exact HB.out|apply a_f|apply a_d|apply a_g|refine a_c ?_ a_P.out)|exact HB.out)) hb)
              clear hb hbox hg
              refine hK.out _ _ ⟨(a_j a_C.out 0).trans rfl,((HB.out.cell (World.block_lt_of_cell? w _ b_a)).trans b_a)⟩ (fun hHeld => ?_)
              clear hK K
              refine b_x (a':=?_) ?_ ?_
              rotate_left
              ·show Act.put _ (some 8) _ = _
               simp only [Act.put,List.setIfInBounds_toArray,List.set_cons_zero,List.set_cons_succ,a_K,a_J]
               rfl
              exact b_x (by first|(simp only [b_n,Act.put,List.setIfInBounds_toArray,List.set_cons_zero,List.set_cons_succ];done)|(simp only [b_n,Act.put,List.setIfInBounds_toArray,List.set_cons_zero,List.set_cons_succ];rfl)) (hJ7 (a_7) _ ⟨hHeld,(bup_ a_C.out),(bup_ a_I.out),b_9.out,a_Y.out,b_m.out,b_r.out,(by repeat (first|(with_reducible first|exact HB.out|apply a_f|apply a_d|apply a_g|refine a_c ?_ a_P.out|refine a_c ?_ a_Y.out)|exact HB.out))⟩)
             skip
             rintro a_7 w23 ⟨hS_,h0_,h1_,h2_,h3_,h4_,h5_,h6_⟩
             have a_I : a_a (w23.heap[a_7]? = some (.cells #[.slice none 0 0] 26 (0,0))):=⟨h1_⟩
             have b_9 : a_a (w.heap.size ≤ a_7):=⟨h2_⟩
             have a_Y : a_a (w.heap.size ≤ a_7):=⟨h3_⟩
             have b_m : a_a (a_V ≠ a_7):=⟨h4_⟩
             have b_r : a_a (a_7 ≠ a_V):=⟨h5_⟩
             replace a_C : a_a (w23.heap[a_V]? = some (.cells #[.slice A315_0 ((a_L l0 x25_1).f0).length c315_0] 26 (0,0))):=⟨h0_⟩
             replace HB : a_a (Below w.heap.size w w23):=⟨h6_⟩
             clear h0_ h1_ h2_ h3_ h4_ h5_ h6_
             have hHeld : w23.cell? ⟨a_V,0,none⟩ = some (.slice A315_0 ((a_L l0 x25_1).f0).length c315_0) ∧ w23.cell? ad315 = some (.slice A320_0 ((a_L l0 0).f0).length c320_0):=hS_
             refine b_x (a':=?_) ?_ ?_
             rotate_left
             ·simp only [b_n,Act.put,List.setIfInBounds_toArray,List.set_cons_zero,List.set_cons_succ]
              rfl
             refine two_ (i:=1) (j:=6) (Ni:=some 33) (Nj:=some 7) #[T_,T_,T_,T_,T_,F_,F_,T_,F_,F_] #[T_,F_,T_,T_,T_,F_,T_,T_,F_,F_] rfl rfl rfl rfl (e_G HT_.out (by kernel_rfl)) (by decide) (by decide) (fun K hK => ?_) (fun K hK => ?_)
             ·skip
              refine c_v Try.func11 (by kernel_rfl) rfl #[.agg #[.slice A315_0 ((a_L l0 x25_1).f0).length c315_0]] (by rfl) rfl rfl (by (try simp only [List.map_toArray,List.map_cons,List.map_nil]);first|done|rfl|(simp only [List.length_drop,List.length_take];rfl)) ?_
              with_reducible refine (a_v.calls _ _ ((a_L l0 x25_1).f0) t317 _ ?side1 ?side2 A12.out).mono ?_
              (case side1 => repeat (first|exact (Kd.a_8 c_7.out HB.out)|(with_reducible refine Kd.a_M ?_ _)|(with_reducible refine Kd.a_N ?_ _)|(with_reducible refine Kd.a_T ?_)))
              (case side2 => exact c_8.out)
              rintro e w24 ⟨v318,rfl,ho0,hb⟩
              refine ⟨_,rfl,?_⟩
              have a_W:=a_a.mk (Kd.b_y ho0 (a_m (by repeat (first|(with_reducible first|exact HB.out|apply a_f|apply a_d|apply a_g|refine a_c ?_ a_P.out|refine a_c ?_ a_Y.out)|exact HB.out))))
              replace a_C:=a_a.mk (a_e (bup_ a_C.out) hb)
              replace a_I:=a_a.mk (a_e (bup_ a_I.out) hb)
              replace HB:=a_a.mk (a_i (by repeat (first|(with_reducible first|exact HB.out|apply a_f|apply a_d|apply a_g|refine a_c ?_ a_P.out|refine a_c ?_ a_Y.out)|exact HB.out)) hb)
              (try clear hb)
              (try clear hb2)
              (try clear hk)
              (try clear hi)
              (try clear ho0)
              refine hK.out _ _ ⟨(a_j a_C.out 0).trans rfl,((HB.out.cell (World.block_lt_of_cell? w _ b_a)).trans b_a)⟩ (fun hHeld => ?_)
              clear hK K
              refine b_x (a':=?_) ?_ ?_
              rotate_left
              ·show Act.put _ (some 33) _ = _
               simp only [Act.put,List.setIfInBounds_toArray,List.set_cons_zero,List.set_cons_succ,a_K,a_J]
               rfl
              exact b_x (by first|(simp only [b_n,Act.put,List.setIfInBounds_toArray,List.set_cons_zero,List.set_cons_succ];done)|(simp only [b_n,Act.put,List.setIfInBounds_toArray,List.set_cons_zero,List.set_cons_succ];rfl)) (i_J (v318,a_7) _ ⟨hHeld,(rup_ a_W.out),(bup_ a_C.out),(bup_ a_I.out),b_9.out,a_Y.out,b_m.out,b_r.out,(by repeat (first|(with_reducible first|exact HB.out|apply a_f|apply a_d|apply a_g|refine a_c ?_ a_P.out|refine a_c ?_ a_Y.out)|exact HB.out))⟩)
             skip
             refine b_2 ?hg (N:=7) ?hd (cs:=#[.slice none 0 0]) (t:=26) ?hr ?_;(case hd => rfl);(case hg => rfl);(case hr => first|(go_simp;done)|(go_simp;rfl))
             intro a_R hg w24 hbox hb
             have a_x:=a_a.mk (hbox)
             have b_8:=a_a.mk ((by rw [hg];exact (a_m (by repeat (first|(with_reducible first|exact HB.out|apply a_f|apply a_d|apply a_g|refine a_c ?_ a_P.out|refine a_c ?_ a_Y.out)|exact HB.out))) : w.heap.size ≤ a_R))
             have a_X:=a_a.mk ((by rw [hg];exact (a_m (by repeat (first|(with_reducible first|exact HB.out|apply a_f|apply a_d|apply a_g|refine a_c ?_ a_P.out|refine a_c ?_ a_Y.out)|exact HB.out))) : w.heap.size ≤ a_R))
             have a_Z:=a_a.mk ((by rw [hg];exact Nat.ne_of_lt (a_p (bup_ a_C.out)) : a_V ≠ a_R))
             have a_3:=a_a.mk ((by rw [hg];exact Nat.ne_of_gt (a_p (bup_ a_C.out)) : a_R ≠ a_V))
             have b_b:=a_a.mk ((by rw [hg];exact Nat.ne_of_lt (a_p (bup_ a_I.out)) : a_7 ≠ a_R))
             have b_c:=a_a.mk ((by rw [hg];exact Nat.ne_of_gt (a_p (bup_ a_I.out)) : a_R ≠ a_7))
             replace a_C:=a_a.mk (a_e (bup_ a_C.out) hb)
             replace a_I:=a_a.mk (a_e (bup_ a_I.out) hb)
             replace HB:=a_a.mk (a_i (by repeat (first|(with_reducible first|exact HB.out|apply a_f|apply a_d|apply a_g|refine a_c ?_ a_P.out|refine a_c ?_ a_Y.out)|exact HB.out)) hb)
             clear hb hbox hg
             refine hK.out _ _ ⟨(a_j a_C.out 0).trans rfl,((HB.out.cell (World.block_lt_of_cell? w _ b_a)).trans b_a)⟩ (fun hHeld => ?_)
             clear hK K
             refine b_x (a':=?_) ?_ ?_
             rotate_left
             ·show Act.put _ (some 7) _ = _
              simp only [Act.put,List.setIfInBounds_toArray,List.set_cons_zero,List.set_cons_succ,a_K,a_J]
              rfl
             exact b_x (by first|(simp only [b_n,Act.put,List.setIfInBounds_toArray,List.set_cons_zero,List.set_cons_succ];done)|(simp only [b_n,Act.put,List.setIfInBounds_toArray,List.set_cons_zero,List.set_cons_succ];rfl)) (i_K (a_R,a_7) _ ⟨hHeld,(bup_ a_C.out),(bup_ a_x.out),(bup_ a_I.out),b_8.out,a_X.out,a_Z.out,a_3.out,b_b.out,b_c.out,b_9.out,a_Y.out,b_m.out,b_r.out,(by repeat (first|(with_reducible first|exact HB.out|apply a_f|apply a_d|apply a_g|refine a_c ?_ a_P.out|refine a_c ?_ a_Y.out|refine a_c ?_ a_X.out)|exact HB.out))⟩)
            skip
            rintro a_R w23 ⟨hS_,h0_,h1_,h2_,h3_,h4_,h5_,h6_⟩
            have a_x : a_a (w23.heap[a_R]? = some (.cells #[.slice none 0 0] 26 (0,0))):=⟨h1_⟩
            have b_8 : a_a (w.heap.size ≤ a_R):=⟨h2_⟩
            have a_X : a_a (w.heap.size ≤ a_R):=⟨h3_⟩
            have a_Z : a_a (a_V ≠ a_R):=⟨h4_⟩
            have a_3 : a_a (a_R ≠ a_V):=⟨h5_⟩
            replace a_C : a_a (w23.heap[a_V]? = some (.cells #[.slice A315_0 ((a_L l0 x25_1).f0).length c315_0] 26 (0,0))):=⟨h0_⟩
            replace HB : a_a (Below w.heap.size w w23):=⟨h6_⟩
            clear h0_ h1_ h2_ h3_ h4_ h5_ h6_
            have hHeld : w23.cell? ⟨a_V,0,none⟩ = some (.slice A315_0 ((a_L l0 x25_1).f0).length c315_0) ∧ w23.cell? ad315 = some (.slice A320_0 ((a_L l0 0).f0).length c320_0):=hS_
            refine b_x (a':=?_) ?_ ?_
            rotate_left
            ·simp only [b_n,Act.put,List.setIfInBounds_toArray,List.set_cons_zero,List.set_cons_succ]
             rfl
            refine two_ (i:=1) (j:=7) (Ni:=some 33) (Nj:=some 8) #[T_,T_,T_,T_,T_,F_,T_,F_,F_,F_] #[T_,F_,T_,T_,T_,F_,T_,T_,F_,F_] rfl rfl rfl rfl (e_G HT_.out (by kernel_rfl)) (by decide) (by decide) (fun K hK => ?_) (fun K hK => ?_)
            ·skip
             refine c_v Try.func11 (by kernel_rfl) rfl #[.agg #[.slice A315_0 ((a_L l0 x25_1).f0).length c315_0]] (by rfl) rfl rfl (by (try simp only [List.map_toArray,List.map_cons,List.map_nil]);first|done|rfl|(simp only [List.length_drop,List.length_take];rfl)) ?_
             with_reducible refine (a_v.calls _ _ ((a_L l0 x25_1).f0) t317 _ ?side1 ?side2 A12.out).mono ?_
             (case side1 => repeat (first|exact (Kd.a_8 c_7.out HB.out)|(with_reducible refine Kd.a_M ?_ _)|(with_reducible refine Kd.a_N ?_ _)|(with_reducible refine Kd.a_T ?_)))
             (case side2 => exact c_8.out)
             rintro e w24 ⟨v318,rfl,ho0,hb⟩
             refine ⟨_,rfl,?_⟩
             have a_W:=a_a.mk (Kd.b_y ho0 (a_m (by repeat (first|(with_reducible first|exact HB.out|apply a_f|apply a_d|apply a_g|refine a_c ?_ a_P.out|refine a_c ?_ a_X.out)|exact HB.out))))
             replace a_C:=a_a.mk (a_e (bup_ a_C.out) hb)
             replace a_x:=a_a.mk (a_e (bup_ a_x.out) hb)
             replace HB:=a_a.mk (a_i (by repeat (first|(with_reducible first|exact HB.out|apply a_f|apply a_d|apply a_g|refine a_c ?_ a_P.out|refine a_c ?_ a_X.out)|exact HB.out)) hb)
             (try clear hb)
             (try clear hb2)
             (try clear hk)
             (try clear hi)
             (try clear ho0)
             refine hK.out _ _ ⟨(a_j a_C.out 0).trans rfl,((HB.out.cell (World.block_lt_of_cell? w _ b_a)).trans b_a)⟩ (fun hHeld => ?_)
             clear hK K
             refine b_x (a':=?_) ?_ ?_
             rotate_left
             ·show Act.put _ (some 33) _ = _
              simp only [Act.put,List.setIfInBounds_toArray,List.set_cons_zero,List.set_cons_succ,a_K,a_J]
              rfl
             exact b_x (by first|(simp only [b_n,Act.put,List.setIfInBounds_toArray,List.set_cons_zero,List.set_cons_succ];done)|(simp only [b_n,Act.put,List.setIfInBounds_toArray,List.set_cons_zero,List.set_cons_succ];rfl)) (i_I (v318,a_R) _ ⟨hHeld,(rup_ a_W.out),(bup_ a_C.out),(bup_ a_x.out),b_8.out,a_X.out,a_Z.out,a_3.out,(by repeat (first|(with_reducible first|exact HB.out|apply a_f|apply a_d|apply a_g|refine a_c ?_ a_P.out|refine a_c ?_ a_X.out)|exact HB.out))⟩)
            skip
            refine b_2 ?hg (N:=8) ?hd (cs:=#[.slice none 0 0]) (t:=26) ?hr ?_;(case hd => rfl);(case hg => rfl);(case hr => first|(go_simp;done)|(go_simp;rfl))
            intro a_7 hg w24 hbox hb
            have a_I:=a_a.mk (hbox)
            have b_9:=a_a.mk ((by rw [hg];exact (a_m (by repeat (first|(with_reducible first|exact HB.out|apply a_f|apply a_d|apply a_g|refine a_c ?_ a_P.out|refine a_c ?_ a_X.out)|exact HB.out))) : w.heap.size ≤ a_7))
            have a_Y:=a_a.mk ((by rw [hg];exact (a_m (by repeat (first|(with_reducible first|exact HB.out|apply a_f|apply a_d|apply a_g|refine a_c ?_ a_P.out|refine a_c ?_ a_X.out)|exact HB.out))) : w.heap.size ≤ a_7))
            have b_m:=a_a.mk ((by rw [hg];exact Nat.ne_of_lt (a_p (bup_ a_C.out)) : a_V ≠ a_7))
            have b_r:=a_a.mk ((by rw [hg];exact Nat.ne_of_gt (a_p (bup_ a_C.out)) : a_7 ≠ a_V))
            have b_c:=a_a.mk ((by rw [hg];exact Nat.ne_of_lt (a_p (bup_ a_x.out)) : a_R ≠ a_7))
            have b_b:=a_a.mk ((by rw [hg];exact Nat.ne_of_gt (a_p (bup_ a_x.out)) : a_7 ≠ a_R))
            replace a_C:=a_a.mk (a_e (bup_ a_C.out) hb)
            replace a_x:=a_a.mk (a_e (bup_ a_x.out) hb)
            replace HB:=a_a.mk (a_i (by repeat (first|(with_reducible first|exact HB.out|apply a_f|apply a_d|apply a_g|refine a_c ?_ a_P.out|refine a_c ?_ a_X.out)|exact HB.out)) hb)
            clear hb hbox hg
            refine hK.out _ _ ⟨(a_j a_C.out 0).trans rfl,((HB.out.cell (World.block_lt_of_cell? w _ b_a)).trans b_a)⟩ (fun hHeld => ?_)
            clear hK K
            refine b_x (a':=?_) ?_ ?_
            rotate_left
            ·show Act.put _ (some 8) _ = _
             simp only [Act.put,List.setIfInBounds_toArray,List.set_cons_zero,List.set_cons_succ,a_K,a_J]
             rfl
            exact b_x (by first|(simp only [b_n,Act.put,List.setIfInBounds_toArray,List.set_cons_zero,List.set_cons_succ];done)|(simp only [b_n,Act.put,List.setIfInBounds_toArray,List.set_cons_zero,List.set_cons_succ];rfl)) (i_K (a_R,a_7) _ ⟨hHeld,(bup_ a_C.out),(bup_ a_x.out),(bup_ a_I.out),b_8.out,a_X.out,a_Z.out,a_3.out,b_b.out,b_c.out,b_9.out,a_Y.out,b_m.out,b_r.out,(by repeat (first|(with_reducible first|exact HB.out|apply a_f|apply a_d|apply a_g|refine a_c ?_ a_P.out|refine a_c ?_ a_X.out|refine a_c ?_ a_Y.out)|exact HB.out))⟩)
           skip
           rintro v318 w23 ⟨hS_,h0_,h1_,h2_⟩
           have a_W : a_a (Kd.R (Kd.int .u32) 31 w23 w.heap.size (fun _ => True) v318 t317):=⟨h0_⟩
           replace a_C : a_a (w23.heap[a_V]? = some (.cells #[.slice A315_0 ((a_L l0 x25_1).f0).length c315_0] 26 (0,0))):=⟨h1_⟩
           replace HB : a_a (Below w.heap.size w w23):=⟨h2_⟩
           clear h0_ h1_ h2_
           have hHeld : w23.cell? ⟨a_V,0,none⟩ = some (.slice A315_0 ((a_L l0 x25_1).f0).length c315_0) ∧ w23.cell? ad315 = some (.slice A320_0 ((a_L l0 0).f0).length c320_0):=hS_
           refine b_x (a':=?_) ?_ ?_
           rotate_left
           ·simp only [b_n,Act.put,List.setIfInBounds_toArray,List.set_cons_zero,List.set_cons_succ]
            rfl
           refine h_h (i:=5) (j:=6) (k:=7) (Ni:=some 37) (Nj:=some 7) (Nk:=some 8) #[T_,T_,T_,T_,T_,T_,F_,F_,F_,F_] #[T_,T_,T_,T_,T_,F_,T_,F_,F_,F_] #[T_,T_,T_,T_,T_,F_,F_,T_,F_,F_] rfl rfl rfl rfl rfl rfl (f_n HT_.out (by kernel_rfl)) (by decide) (by decide) (by decide) (fun K hK => ?_) (fun K hK => ?_) (fun K hK => ?_)
           ·skip
            refine c_v Try.func11 (by kernel_rfl) rfl #[.agg #[.slice A320_0 ((a_L l0 0).f0).length c320_0]] (by rfl) rfl rfl (by (try simp only [List.map_toArray,List.map_cons,List.map_nil]);first|done|rfl|(simp only [List.length_drop,List.length_take];rfl)) ?_
            with_reducible refine (a_v.calls _ _ ((a_L l0 0).f0) t321 _ ?side1 ?side2 A14.out).mono ?_
            (case side1 => repeat (first|exact (Kd.a_8 d_0.out HB.out)|(with_reducible refine Kd.a_M ?_ _)|(with_reducible refine Kd.a_N ?_ _)|(with_reducible refine Kd.a_T ?_)))
            (case side2 => exact e_y.out)
            rintro e w24 ⟨v322,rfl,ho0,hb⟩
            refine ⟨_,rfl,?_⟩
            have b_i:=a_a.mk (Kd.b_y (Kd.c_t ho0 (Kd.R_lt (rup_ a_W.out))) (a_m (by repeat (first|(with_reducible first|exact HB.out|apply a_f|apply a_d|apply a_g|refine a_c ?_ a_P.out)|exact HB.out))))
            replace a_W:=a_a.mk (Kd.b_T (rup_ a_W.out) (Kd.c_k ho0) hb)
            replace a_C:=a_a.mk (a_e (bup_ a_C.out) hb)
            replace HB:=a_a.mk (a_i (by repeat (first|(with_reducible first|exact HB.out|apply a_f|apply a_d|apply a_g|refine a_c ?_ a_P.out)|exact HB.out)) hb)
            (try clear hb)
            (try clear hb2)
            (try clear hk)
            (try clear hi)
            (try clear ho0)
            refine hK.out _ _ ⟨(a_j a_C.out 0).trans rfl,((HB.out.cell (World.block_lt_of_cell? w _ b_a)).trans b_a)⟩ (fun hHeld => ?_)
            clear hK K
            refine b_x (a':=?_) ?_ ?_
            rotate_left
            ·show Act.put _ (some 37) _ = _
             simp only [Act.put,List.setIfInBounds_toArray,List.set_cons_zero,List.set_cons_succ,a_K,a_J]
             rfl
            exact b_x (by first|(simp only [b_n,Act.put,List.setIfInBounds_toArray,List.set_cons_zero,List.set_cons_succ];done)|(simp only [b_n,Act.put,List.setIfInBounds_toArray,List.set_cons_zero,List.set_cons_succ];rfl)) (k_s (v318,v322) _ ⟨hHeld,(by (with_reducible repeat (first|apply Kd.a_5|apply Kd.a_1|apply Kd.a_0));exact Kd.b_v a_W.out (fun _ hk => hk.2)),(by (with_reducible repeat (first|apply Kd.a_5|apply Kd.a_1|apply Kd.a_0));exact Kd.b_v b_i.out (fun _ hk => hk.2)),(bup_ a_C.out),(by repeat (first|(with_reducible first|exact HB.out|apply a_f|apply a_d|apply a_g|refine a_c ?_ a_P.out)|exact HB.out))⟩)
           ·skip
            refine b_2 ?hg (N:=7) ?hd (cs:=#[.slice none 0 0]) (t:=26) ?hr ?_;(case hd => rfl);(case hg => rfl);(case hr => first|(go_simp;done)|(go_simp;rfl))
            intro a_R hg w24 hbox hb
            have a_x:=a_a.mk (hbox)
            have b_8:=a_a.mk ((by rw [hg];exact (a_m (by repeat (first|(with_reducible first|exact HB.out|apply a_f|apply a_d|apply a_g|refine a_c ?_ a_P.out)|exact HB.out))) : w.heap.size ≤ a_R))
            have a_X:=a_a.mk ((by rw [hg];exact (a_m (by repeat (first|(with_reducible first|exact HB.out|apply a_f|apply a_d|apply a_g|refine a_c ?_ a_P.out)|exact HB.out))) : w.heap.size ≤ a_R))
            have a_Z:=a_a.mk ((by rw [hg];exact Nat.ne_of_lt (a_p (bup_ a_C.out)) : a_V ≠ a_R))
            have a_3:=a_a.mk ((by rw [hg];exact Nat.ne_of_gt (a_p (bup_ a_C.out)) : a_R ≠ a_V))
            replace a_W:=a_a.mk (Kd.a_y (rup_ a_W.out) hb)
            replace a_C:=a_a.mk (a_e (bup_ a_C.out) hb)
            replace HB:=a_a.mk (a_i (by repeat (first|(with_reducible first|exact HB.out|apply a_f|apply a_d|apply a_g|refine a_c ?_ a_P.out)|exact HB.out)) hb)
            clear hb hbox hg
            refine hK.out _ _ ⟨(a_j a_C.out 0).trans rfl,((HB.out.cell (World.block_lt_of_cell? w _ b_a)).trans b_a)⟩ (fun hHeld => ?_)
            clear hK K
            refine b_x (a':=?_) ?_ ?_
            rotate_left
            ·show Act.put _ (some 7) _ = _
             simp only [Act.put,List.setIfInBounds_toArray,List.set_cons_zero,List.set_cons_succ,a_K,a_J]
             rfl
            exact b_x (by first|(simp only [b_n,Act.put,List.setIfInBounds_toArray,List.set_cons_zero,List.set_cons_succ];done)|(simp only [b_n,Act.put,List.setIfInBounds_toArray,List.set_cons_zero,List.set_cons_succ];rfl)) (i_I (v318,a_R) _ ⟨hHeld,(rup_ a_W.out),(bup_ a_C.out),(bup_ a_x.out),b_8.out,a_X.out,a_Z.out,a_3.out,(by repeat (first|(with_reducible first|exact HB.out|apply a_f|apply a_d|apply a_g|refine a_c ?_ a_P.out|refine a_c ?_ a_X.out)|exact HB.out))⟩)
           skip
           refine b_2 ?hg (N:=8) ?hd (cs:=#[.slice none 0 0]) (t:=26) ?hr ?_;(case hd => rfl);(case hg => rfl);(case hr => first|(go_simp;done)|(go_simp;rfl))
           intro a_7 hg w24 hbox hb
           have a_I:=a_a.mk (hbox)
           have b_9:=a_a.mk ((by rw [hg];exact (a_m (by repeat (first|(with_reducible first|exact HB.out|apply a_f|apply a_d|apply a_g|refine a_c ?_ a_P.out)|exact HB.out))) : w.heap.size ≤ a_7))
           have a_Y:=a_a.mk ((by rw [hg];exact (a_m (by repeat (first|(with_reducible first|exact HB.out|apply a_f|apply a_d|apply a_g|refine a_c ?_ a_P.out)|exact HB.out))) : w.heap.size ≤ a_7))
           have b_m:=a_a.mk ((by rw [hg];exact Nat.ne_of_lt (a_p (bup_ a_C.out)) : a_V ≠ a_7))
           have b_r:=a_a.mk ((by rw [hg];exact Nat.ne_of_gt (a_p (bup_ a_C.out)) : a_7 ≠ a_V))
           replace a_W:=a_a.mk (Kd.a_y (rup_ a_W.out) hb)
           replace a_C:=a_a.mk (a_e (bup_ a_C.out) hb)
           replace HB:=a_a.mk (a_i (by repeat (first|(with_reducible first|exact HB.out|apply a_f|apply a_d|apply a_g|refine a_c ?_ a_P.out)|exact HB.out)) hb)
           clear hb hbox hg
           refine hK.out _ _ ⟨(a_j a_C.out 0).trans rfl,((HB.out.cell (World.block_lt_of_cell? w _ b_a)).trans b_a)⟩ (fun hHeld => ?_)
           clear hK K
           refine b_x (a':=?_) ?_ ?_
           rotate_left
           ·show Act.put _ (some 8) _ = _
            simp only [Act.put,List.setIfInBounds_toArray,List.set_cons_zero,List.set_cons_succ,a_K,a_J]
            rfl
           exact b_x (by first|(simp only [b_n,Act.put,List.setIfInBounds_toArray,List.set_cons_zero,List.set_cons_succ];done)|(simp only [b_n,Act.put,List.setIfInBounds_toArray,List.set_cons_zero,List.set_cons_succ];rfl)) (i_J (v318,a_7) _ ⟨hHeld,(rup_ a_W.out),(bup_ a_C.out),(bup_ a_I.out),b_9.out,a_Y.out,b_m.out,b_r.out,(by repeat (first|(with_reducible first|exact HB.out|apply a_f|apply a_d|apply a_g|refine a_c ?_ a_P.out|refine a_c ?_ a_Y.out)|exact HB.out))⟩)
          skip
          rintro ⟨a_R,a_7⟩ w24 ⟨hS_,h0_,h1_,h2_,h3_,h4_,h5_,h6_,h7_,h8_,h9_,h10_,h11_,h12_,h13_⟩
          have a_x : a_a (w24.heap[a_R]? = some (.cells #[.slice none 0 0] 26 (0,0))):=⟨h1_⟩
          have a_I : a_a (w24.heap[a_7]? = some (.cells #[.slice none 0 0] 26 (0,0))):=⟨h2_⟩
          have b_8 : a_a (w.heap.size ≤ a_R):=⟨h3_⟩
          have a_X : a_a (w.heap.size ≤ a_R):=⟨h4_⟩
          have a_Z : a_a (a_V ≠ a_R):=⟨h5_⟩
          have a_3 : a_a (a_R ≠ a_V):=⟨h6_⟩
          have b_b : a_a (a_7 ≠ a_R):=⟨h7_⟩
          have b_c : a_a (a_R ≠ a_7):=⟨h8_⟩
          have b_9 : a_a (w.heap.size ≤ a_7):=⟨h9_⟩
          have a_Y : a_a (w.heap.size ≤ a_7):=⟨h10_⟩
          have b_m : a_a (a_V ≠ a_7):=⟨h11_⟩
          have b_r : a_a (a_7 ≠ a_V):=⟨h12_⟩
          replace a_C : a_a (w24.heap[a_V]? = some (.cells #[.slice A315_0 ((a_L l0 x25_1).f0).length c315_0] 26 (0,0))):=⟨h0_⟩
          replace HB : a_a (Below w.heap.size w w24):=⟨h13_⟩
          clear h0_ h1_ h2_ h3_ h4_ h5_ h6_ h7_ h8_ h9_ h10_ h11_ h12_ h13_
          have hHeld : w24.cell? ⟨a_V,0,none⟩ = some (.slice A315_0 ((a_L l0 x25_1).f0).length c315_0) ∧ w24.cell? ad315 = some (.slice A320_0 ((a_L l0 0).f0).length c320_0):=hS_
          refine b_x (a':=?_) ?_ ?_
          rotate_left
          ·simp only [b_n,Act.put,List.setIfInBounds_toArray,List.set_cons_zero,List.set_cons_succ]
           rfl
          refine one_ (i:=1) (N:=some 33) #[T_,T_,T_,T_,T_,F_,T_,T_,F_,F_] rfl rfl (c_a HT_.out (by kernel_rfl)) (by decide) (fun K hK => ?_)
          refine c_v Try.func11 (by kernel_rfl) rfl #[.agg #[.slice A315_0 ((a_L l0 x25_1).f0).length c315_0]] (by rfl) rfl rfl (by (try simp only [List.map_toArray,List.map_cons,List.map_nil]);first|done|rfl|(simp only [List.length_drop,List.length_take];rfl)) ?_
          with_reducible refine (a_v.calls _ _ ((a_L l0 x25_1).f0) t317 _ ?side1 ?side2 A12.out).mono ?_
          (case side1 => repeat (first|exact (Kd.a_8 c_7.out HB.out)|(with_reducible refine Kd.a_M ?_ _)|(with_reducible refine Kd.a_N ?_ _)|(with_reducible refine Kd.a_T ?_)))
          (case side2 => exact c_8.out)
          rintro e w25 ⟨v318,rfl,ho0,hb⟩
          refine ⟨_,rfl,?_⟩
          have a_W:=a_a.mk (Kd.b_y ho0 (a_m (by repeat (first|(with_reducible first|exact HB.out|apply a_f|apply a_d|apply a_g|refine a_c ?_ a_P.out|refine a_c ?_ a_X.out|refine a_c ?_ a_Y.out)|exact HB.out))))
          replace a_C:=a_a.mk (a_e (bup_ a_C.out) hb)
          replace a_x:=a_a.mk (a_e (bup_ a_x.out) hb)
          replace a_I:=a_a.mk (a_e (bup_ a_I.out) hb)
          replace HB:=a_a.mk (a_i (by repeat (first|(with_reducible first|exact HB.out|apply a_f|apply a_d|apply a_g|refine a_c ?_ a_P.out|refine a_c ?_ a_X.out|refine a_c ?_ a_Y.out)|exact HB.out)) hb)
          (try clear hb)
          (try clear hb2)
          (try clear hk)
          (try clear hi)
          (try clear ho0)
          refine hK.out _ _ ⟨(a_j a_C.out 0).trans rfl,((HB.out.cell (World.block_lt_of_cell? w _ b_a)).trans b_a)⟩ (fun hHeld => ?_)
          clear hK K
          refine b_x (a':=?_) ?_ ?_
          rotate_left
          ·show Act.put _ (some 33) _ = _
           simp only [Act.put,List.setIfInBounds_toArray,List.set_cons_zero,List.set_cons_succ,a_K,a_J]
           rfl
          exact b_x (by first|(simp only [b_n,Act.put,List.setIfInBounds_toArray,List.set_cons_zero,List.set_cons_succ];done)|(simp only [b_n,Act.put,List.setIfInBounds_toArray,List.set_cons_zero,List.set_cons_succ];rfl)) (f_j (v318,a_R,a_7) _ ⟨hHeld,(rup_ a_W.out),(bup_ a_C.out),(bup_ a_x.out),(bup_ a_I.out),b_8.out,a_X.out,a_Z.out,a_3.out,b_b.out,b_c.out,b_9.out,a_Y.out,b_m.out,b_r.out,(by repeat (first|(with_reducible first|exact HB.out|apply a_f|apply a_d|apply a_g|refine a_c ?_ a_P.out|refine a_c ?_ a_X.out|refine a_c ?_ a_Y.out)|exact HB.out))⟩)
         skip
         rintro ⟨v318,a_7⟩ w24 ⟨hS_,h0_,h1_,h2_,h3_,h4_,h5_,h6_,h7_⟩
         have a_W : a_a (Kd.R (Kd.int .u32) 31 w24 w.heap.size (fun _ => True) v318 t317):=⟨h0_⟩
         have a_I : a_a (w24.heap[a_7]? = some (.cells #[.slice none 0 0] 26 (0,0))):=⟨h2_⟩
         have b_9 : a_a (w.heap.size ≤ a_7):=⟨h3_⟩
         have a_Y : a_a (w.heap.size ≤ a_7):=⟨h4_⟩
         have b_m : a_a (a_V ≠ a_7):=⟨h5_⟩
         have b_r : a_a (a_7 ≠ a_V):=⟨h6_⟩
         replace a_C : a_a (w24.heap[a_V]? = some (.cells #[.slice A315_0 ((a_L l0 x25_1).f0).length c315_0] 26 (0,0))):=⟨h1_⟩
         replace HB : a_a (Below w.heap.size w w24):=⟨h7_⟩
         clear h0_ h1_ h2_ h3_ h4_ h5_ h6_ h7_
         have hHeld : w24.cell? ⟨a_V,0,none⟩ = some (.slice A315_0 ((a_L l0 x25_1).f0).length c315_0) ∧ w24.cell? ad315 = some (.slice A320_0 ((a_L l0 0).f0).length c320_0):=hS_
         refine b_x (a':=?_) ?_ ?_
         rotate_left
         ·simp only [b_n,Act.put,List.setIfInBounds_toArray,List.set_cons_zero,List.set_cons_succ]
          rfl
         refine two_ (i:=5) (j:=6) (Ni:=some 37) (Nj:=some 7) #[T_,T_,T_,T_,T_,T_,F_,T_,F_,F_] #[T_,T_,T_,T_,T_,F_,T_,T_,F_,F_] rfl rfl rfl rfl (e_G HT_.out (by kernel_rfl)) (by decide) (by decide) (fun K hK => ?_) (fun K hK => ?_)
         ·skip
          refine c_v Try.func11 (by kernel_rfl) rfl #[.agg #[.slice A320_0 ((a_L l0 0).f0).length c320_0]] (by rfl) rfl rfl (by (try simp only [List.map_toArray,List.map_cons,List.map_nil]);first|done|rfl|(simp only [List.length_drop,List.length_take];rfl)) ?_
          with_reducible refine (a_v.calls _ _ ((a_L l0 0).f0) t321 _ ?side1 ?side2 A14.out).mono ?_
          (case side1 => repeat (first|exact (Kd.a_8 d_0.out HB.out)|(with_reducible refine Kd.a_M ?_ _)|(with_reducible refine Kd.a_N ?_ _)|(with_reducible refine Kd.a_T ?_)))
          (case side2 => exact e_y.out)
          rintro e w25 ⟨v322,rfl,ho0,hb⟩
          refine ⟨_,rfl,?_⟩
          have b_i:=a_a.mk (Kd.b_y (Kd.c_t ho0 (Kd.R_lt (rup_ a_W.out))) (a_m (by repeat (first|(with_reducible first|exact HB.out|apply a_f|apply a_d|apply a_g|refine a_c ?_ a_P.out|refine a_c ?_ a_Y.out)|exact HB.out))))
          replace a_W:=a_a.mk (Kd.b_T (rup_ a_W.out) (Kd.c_k ho0) hb)
          replace a_C:=a_a.mk (a_e (bup_ a_C.out) hb)
          replace a_I:=a_a.mk (a_e (bup_ a_I.out) hb)
          replace HB:=a_a.mk (a_i (by repeat (first|(with_reducible first|exact HB.out|apply a_f|apply a_d|apply a_g|refine a_c ?_ a_P.out|refine a_c ?_ a_Y.out)|exact HB.out)) hb)
          (try clear hb)
          (try clear hb2)
          (try clear hk)
          (try clear hi)
          (try clear ho0)
          refine hK.out _ _ ⟨(a_j a_C.out 0).trans rfl,((HB.out.cell (World.block_lt_of_cell? w _ b_a)).trans b_a)⟩ (fun hHeld => ?_)
          clear hK K
          refine b_x (a':=?_) ?_ ?_
          rotate_left
          ·show Act.put _ (some 37) _ = _
           simp only [Act.put,List.setIfInBounds_toArray,List.set_cons_zero,List.set_cons_succ,a_K,a_J]
           rfl
          exact b_x (by first|(simp only [b_n,Act.put,List.setIfInBounds_toArray,List.set_cons_zero,List.set_cons_succ];done)|(simp only [b_n,Act.put,List.setIfInBounds_toArray,List.set_cons_zero,List.set_cons_succ];rfl)) (g_H (v318,v322,a_7) _ ⟨hHeld,(by (with_reducible repeat (first|apply Kd.a_5|apply Kd.a_1|apply Kd.a_0));exact Kd.b_v a_W.out (fun _ hk => hk.2)),(by (with_reducible repeat (first|apply Kd.a_5|apply Kd.a_1|apply Kd.a_0));exact Kd.b_v b_i.out (fun _ hk => hk.2)),(bup_ a_C.out),(bup_ a_I.out),b_9.out,a_Y.out,b_m.out,b_r.out,(by repeat (first|(with_reducible first|exact HB.out|apply a_f|apply a_d|apply a_g|refine a_c ?_ a_P.out|refine a_c ?_ a_Y.out)|exact HB.out))⟩)
         skip
         refine b_2 ?hg (N:=7) ?hd (cs:=#[.slice none 0 0]) (t:=26) ?hr ?_;(case hd => rfl);(case hg => rfl);(case hr => first|(go_simp;done)|(go_simp;rfl))
         intro a_R hg w25 hbox hb
         have a_x:=a_a.mk (hbox)
         have b_8:=a_a.mk ((by rw [hg];exact (a_m (by repeat (first|(with_reducible first|exact HB.out|apply a_f|apply a_d|apply a_g|refine a_c ?_ a_P.out|refine a_c ?_ a_Y.out)|exact HB.out))) : w.heap.size ≤ a_R))
         have a_X:=a_a.mk ((by rw [hg];exact (a_m (by repeat (first|(with_reducible first|exact HB.out|apply a_f|apply a_d|apply a_g|refine a_c ?_ a_P.out|refine a_c ?_ a_Y.out)|exact HB.out))) : w.heap.size ≤ a_R))
         have a_Z:=a_a.mk ((by rw [hg];exact Nat.ne_of_lt (a_p (bup_ a_C.out)) : a_V ≠ a_R))
         have a_3:=a_a.mk ((by rw [hg];exact Nat.ne_of_gt (a_p (bup_ a_C.out)) : a_R ≠ a_V))
         have b_b:=a_a.mk ((by rw [hg];exact Nat.ne_of_lt (a_p (bup_ a_I.out)) : a_7 ≠ a_R))
         have b_c:=a_a.mk ((by rw [hg];exact Nat.ne_of_gt (a_p (bup_ a_I.out)) : a_R ≠ a_7))
         replace a_W:=a_a.mk (Kd.a_y (rup_ a_W.out) hb)
         replace a_C:=a_a.mk (a_e (bup_ a_C.out) hb)
         replace a_I:=a_a.mk (a_e (bup_ a_I.out) hb)
         replace HB:=a_a.mk (a_i (by repeat (first|(with_reducible first|exact HB.out|apply a_f|apply a_d|apply a_g|refine a_c ?_ a_P.out|refine a_c ?_ a_Y.out)|exact HB.out)) hb)
         clear hb hbox hg
         refine hK.out _ _ ⟨(a_j a_C.out 0).trans rfl,((HB.out.cell (World.block_lt_of_cell? w _ b_a)).trans b_a)⟩ (fun hHeld => ?_)
         clear hK K
         refine b_x (a':=?_) ?_ ?_
         rotate_left
         ·show Act.put _ (some 7) _ = _
          simp only [Act.put,List.setIfInBounds_toArray,List.set_cons_zero,List.set_cons_succ,a_K,a_J]
          rfl
         exact b_x (by first|(simp only [b_n,Act.put,List.setIfInBounds_toArray,List.set_cons_zero,List.set_cons_succ];done)|(simp only [b_n,Act.put,List.setIfInBounds_toArray,List.set_cons_zero,List.set_cons_succ];rfl)) (f_j (v318,a_R,a_7) _ ⟨hHeld,(rup_ a_W.out),(bup_ a_C.out),(bup_ a_x.out),(bup_ a_I.out),b_8.out,a_X.out,a_Z.out,a_3.out,b_b.out,b_c.out,b_9.out,a_Y.out,b_m.out,b_r.out,(by repeat (first|(with_reducible first|exact HB.out|apply a_f|apply a_d|apply a_g|refine a_c ?_ a_P.out|refine a_c ?_ a_Y.out|refine a_c ?_ a_X.out)|exact HB.out))⟩)
        skip
        rintro ⟨v318,a_R⟩ w24 ⟨hS_,h0_,h1_,h2_,h3_,h4_,h5_,h6_,h7_⟩
        have a_W : a_a (Kd.R (Kd.int .u32) 31 w24 w.heap.size (fun _ => True) v318 t317):=⟨h0_⟩
        have a_x : a_a (w24.heap[a_R]? = some (.cells #[.slice none 0 0] 26 (0,0))):=⟨h2_⟩
        have b_8 : a_a (w.heap.size ≤ a_R):=⟨h3_⟩
        have a_X : a_a (w.heap.size ≤ a_R):=⟨h4_⟩
        have a_Z : a_a (a_V ≠ a_R):=⟨h5_⟩
        have a_3 : a_a (a_R ≠ a_V):=⟨h6_⟩
        replace a_C : a_a (w24.heap[a_V]? = some (.cells #[.slice A315_0 ((a_L l0 x25_1).f0).length c315_0] 26 (0,0))):=⟨h1_⟩
        replace HB : a_a (Below w.heap.size w w24):=⟨h7_⟩
        clear h0_ h1_ h2_ h3_ h4_ h5_ h6_ h7_
        have hHeld : w24.cell? ⟨a_V,0,none⟩ = some (.slice A315_0 ((a_L l0 x25_1).f0).length c315_0) ∧ w24.cell? ad315 = some (.slice A320_0 ((a_L l0 0).f0).length c320_0):=hS_
        refine b_x (a':=?_) ?_ ?_
        rotate_left
        ·simp only [b_n,Act.put,List.setIfInBounds_toArray,List.set_cons_zero,List.set_cons_succ]
         rfl
        refine two_ (i:=5) (j:=7) (Ni:=some 37) (Nj:=some 8) #[T_,T_,T_,T_,T_,T_,T_,F_,F_,F_] #[T_,T_,T_,T_,T_,F_,T_,T_,F_,F_] rfl rfl rfl rfl (e_G HT_.out (by kernel_rfl)) (by decide) (by decide) (fun K hK => ?_) (fun K hK => ?_)
        ·skip
         refine c_v Try.func11 (by kernel_rfl) rfl #[.agg #[.slice A320_0 ((a_L l0 0).f0).length c320_0]] (by rfl) rfl rfl (by (try simp only [List.map_toArray,List.map_cons,List.map_nil]);first|done|rfl|(simp only [List.length_drop,List.length_take];rfl)) ?_
         with_reducible refine (a_v.calls _ _ ((a_L l0 0).f0) t321 _ ?side1 ?side2 A14.out).mono ?_
         (case side1 => repeat (first|exact (Kd.a_8 d_0.out HB.out)|(with_reducible refine Kd.a_M ?_ _)|(with_reducible refine Kd.a_N ?_ _)|(with_reducible refine Kd.a_T ?_)))
         (case side2 => exact e_y.out)
         rintro e w25 ⟨v322,rfl,ho0,hb⟩
         refine ⟨_,rfl,?_⟩
         have b_i:=a_a.mk (Kd.b_y (Kd.c_t ho0 (Kd.R_lt (rup_ a_W.out))) (a_m (by repeat (first|(with_reducible first|exact HB.out|apply a_f|apply a_d|apply a_g|refine a_c ?_ a_P.out|refine a_c ?_ a_X.out)|exact HB.out))))
         replace a_W:=a_a.mk (Kd.b_T (rup_ a_W.out) (Kd.c_k ho0) hb)
         replace a_C:=a_a.mk (a_e (bup_ a_C.out) hb)
         replace a_x:=a_a.mk (a_e (bup_ a_x.out) hb)
         replace HB:=a_a.mk (a_i (by repeat (first|(with_reducible first|exact HB.out|apply a_f|apply a_d|apply a_g|refine a_c ?_ a_P.out|refine a_c ?_ a_X.out)|exact HB.out)) hb)
         (try clear hb)
         (try clear hb2)
         (try clear hk)
         (try clear hi)
         (try clear ho0)
         refine hK.out _ _ ⟨(a_j a_C.out 0).trans rfl,((HB.out.cell (World.block_lt_of_cell? w _ b_a)).trans b_a)⟩ (fun hHeld => ?_)
         clear hK K
         refine b_x (a':=?_) ?_ ?_
         rotate_left
         ·show Act.put _ (some 37) _ = _
          simp only [Act.put,List.setIfInBounds_toArray,List.set_cons_zero,List.set_cons_succ,a_K,a_J]
          rfl
         exact b_x (by first|(simp only [b_n,Act.put,List.setIfInBounds_toArray,List.set_cons_zero,List.set_cons_succ];done)|(simp only [b_n,Act.put,List.setIfInBounds_toArray,List.set_cons_zero,List.set_cons_succ];rfl)) (g_G (v318,v322,a_R) _ ⟨hHeld,(by (with_reducible repeat (first|apply Kd.a_5|apply Kd.a_1|apply Kd.a_0));exact Kd.b_v a_W.out (fun _ hk => hk.2)),(by (with_reducible repeat (first|apply Kd.a_5|apply Kd.a_1|apply Kd.a_0));exact Kd.b_v b_i.out (fun _ hk => hk.2)),(bup_ a_C.out),(bup_ a_x.out),b_8.out,a_X.out,a_Z.out,a_3.out,(by repeat (first|(with_reducible first|exact HB.out|apply a_f|apply a_d|apply a_g|refine a_c ?_ a_P.out|refine a_c ?_ a_X.out)|exact HB.out))⟩)
        skip
        refine b_2 ?hg (N:=8) ?hd (cs:=#[.slice none 0 0]) (t:=26) ?hr ?_;(case hd => rfl);(case hg => rfl);(case hr => first|(go_simp;done)|(go_simp;rfl))
        intro a_7 hg w25 hbox hb
        have a_I:=a_a.mk (hbox)
        have b_9:=a_a.mk ((by rw [hg];exact (a_m (by repeat (first|(with_reducible first|exact HB.out|apply a_f|apply a_d|apply a_g|refine a_c ?_ a_P.out|refine a_c ?_ a_X.out)|exact HB.out))) : w.heap.size ≤ a_7))
        have a_Y:=a_a.mk ((by rw [hg];exact (a_m (by repeat (first|(with_reducible first|exact HB.out|apply a_f|apply a_d|apply a_g|refine a_c ?_ a_P.out|refine a_c ?_ a_X.out)|exact HB.out))) : w.heap.size ≤ a_7))
        have b_m:=a_a.mk ((by rw [hg];exact Nat.ne_of_lt (a_p (bup_ a_C.out)) : a_V ≠ a_7))
        have b_r:=a_a.mk ((by rw [hg];exact Nat.ne_of_gt (a_p (bup_ a_C.out)) : a_7 ≠ a_V))
        have b_c:=a_a.mk ((by rw [hg];exact Nat.ne_of_lt (a_p (bup_ a_x.out)) : a_R ≠ a_7))
        have b_b:=a_a.mk ((by rw [hg];exact Nat.ne_of_gt (a_p (bup_ a_x.out)) : a_7 ≠ a_R))
        replace a_W:=a_a.mk (Kd.a_y (rup_ a_W.out) hb)
        replace a_C:=a_a.mk (a_e (bup_ a_C.out) hb)
        replace a_x:=a_a.mk (a_e (bup_ a_x.out) hb)
        replace HB:=a_a.mk (a_i (by repeat (first|(with_reducible first|exact HB.out|apply a_f|apply a_d|apply a_g|refine a_c ?_ a_P.out|refine a_c ?_ a_X.out)|exact HB.out)) hb)
        clear hb hbox hg
        refine hK.out _ _ ⟨(a_j a_C.out 0).trans rfl,((HB.out.cell (World.block_lt_of_cell? w _ b_a)).trans b_a)⟩ (fun hHeld => ?_)
        clear hK K
        refine b_x (a':=?_) ?_ ?_
        rotate_left
        ·show Act.put _ (some 8) _ = _
         simp only [Act.put,List.setIfInBounds_toArray,List.set_cons_zero,List.set_cons_succ,a_K,a_J]
         rfl
        exact b_x (by first|(simp only [b_n,Act.put,List.setIfInBounds_toArray,List.set_cons_zero,List.set_cons_succ];done)|(simp only [b_n,Act.put,List.setIfInBounds_toArray,List.set_cons_zero,List.set_cons_succ];rfl)) (f_j (v318,a_R,a_7) _ ⟨hHeld,(rup_ a_W.out),(bup_ a_C.out),(bup_ a_x.out),(bup_ a_I.out),b_8.out,a_X.out,a_Z.out,a_3.out,b_b.out,b_c.out,b_9.out,a_Y.out,b_m.out,b_r.out,(by repeat (first|(with_reducible first|exact HB.out|apply a_f|apply a_d|apply a_g|refine a_c ?_ a_P.out|refine a_c ?_ a_X.out|refine a_c ?_ a_Y.out)|exact HB.out))⟩)
       skip
       rintro ⟨v318,v322⟩ w24 ⟨hS_,h0_,h1_,h2_,h3_⟩
       have a_W : a_a (Kd.R (Kd.int .u32) 31 w24 w.heap.size (fun k_ => some k_ ≠ (v322 : Value).ownBlock) v318 t317):=⟨h0_⟩
       have b_i : a_a (Kd.R (Kd.int .u32) 31 w24 w.heap.size (fun k_ => some k_ ≠ (v318 : Value).ownBlock) v322 t321):=⟨h1_⟩
       replace a_C : a_a (w24.heap[a_V]? = some (.cells #[.slice A315_0 ((a_L l0 x25_1).f0).length c315_0] 26 (0,0))):=⟨h2_⟩
       replace HB : a_a (Below w.heap.size w w24):=⟨h3_⟩
       clear h0_ h1_ h2_ h3_
       have hHeld : w24.cell? ⟨a_V,0,none⟩ = some (.slice A315_0 ((a_L l0 x25_1).f0).length c315_0) ∧ w24.cell? ad315 = some (.slice A320_0 ((a_L l0 0).f0).length c320_0):=hS_
       refine b_x (a':=?_) ?_ ?_
       rotate_left
       ·simp only [b_n,Act.put,List.setIfInBounds_toArray,List.set_cons_zero,List.set_cons_succ]
        rfl
       refine two_ (i:=6) (j:=7) (Ni:=some 7) (Nj:=some 8) #[T_,T_,T_,T_,T_,T_,T_,F_,F_,F_] #[T_,T_,T_,T_,T_,T_,F_,T_,F_,F_] rfl rfl rfl rfl (e_G HT_.out (by kernel_rfl)) (by decide) (by decide) (fun K hK => ?_) (fun K hK => ?_)
       ·skip
        refine b_2 ?hg (N:=7) ?hd (cs:=#[.slice none 0 0]) (t:=26) ?hr ?_;(case hd => rfl);(case hg => rfl);(case hr => first|(go_simp;done)|(go_simp;rfl))
        intro a_R hg w25 hbox hb
        have a_x:=a_a.mk (hbox)
        have b_8:=a_a.mk ((by rw [hg];exact (a_m (by repeat (first|(with_reducible first|exact HB.out|apply a_f|apply a_d|apply a_g|refine a_c ?_ a_P.out)|exact HB.out))) : w.heap.size ≤ a_R))
        have a_X:=a_a.mk ((by rw [hg];exact (a_m (by repeat (first|(with_reducible first|exact HB.out|apply a_f|apply a_d|apply a_g|refine a_c ?_ a_P.out)|exact HB.out))) : w.heap.size ≤ a_R))
        have a_Z:=a_a.mk ((by rw [hg];exact Nat.ne_of_lt (a_p (bup_ a_C.out)) : a_V ≠ a_R))
        have a_3:=a_a.mk ((by rw [hg];exact Nat.ne_of_gt (a_p (bup_ a_C.out)) : a_R ≠ a_V))
        replace a_W:=a_a.mk (Kd.a_y (rup_ a_W.out) hb)
        replace b_i:=a_a.mk (Kd.a_y (rup_ b_i.out) hb)
        replace a_C:=a_a.mk (a_e (bup_ a_C.out) hb)
        replace HB:=a_a.mk (a_i (by repeat (first|(with_reducible first|exact HB.out|apply a_f|apply a_d|apply a_g|refine a_c ?_ a_P.out)|exact HB.out)) hb)
        clear hb hbox hg
        refine hK.out _ _ ⟨(a_j a_C.out 0).trans rfl,((HB.out.cell (World.block_lt_of_cell? w _ b_a)).trans b_a)⟩ (fun hHeld => ?_)
        clear hK K
        refine b_x (a':=?_) ?_ ?_
        rotate_left
        ·show Act.put _ (some 7) _ = _
         simp only [Act.put,List.setIfInBounds_toArray,List.set_cons_zero,List.set_cons_succ,a_K,a_J]
         rfl
        exact b_x (by first|(simp only [b_n,Act.put,List.setIfInBounds_toArray,List.set_cons_zero,List.set_cons_succ];done)|(simp only [b_n,Act.put,List.setIfInBounds_toArray,List.set_cons_zero,List.set_cons_succ];rfl)) (g_G (v318,v322,a_R) _ ⟨hHeld,(rup_ a_W.out),(rup_ b_i.out),(bup_ a_C.out),(bup_ a_x.out),b_8.out,a_X.out,a_Z.out,a_3.out,(by repeat (first|(with_reducible first|exact HB.out|apply a_f|apply a_d|apply a_g|refine a_c ?_ a_P.out|refine a_c ?_ a_X.out)|exact HB.out))⟩)
       skip
       refine b_2 ?hg (N:=8) ?hd (cs:=#[.slice none 0 0]) (t:=26) ?hr ?_;(case hd => rfl);(case hg => rfl);(case hr => first|(go_simp;done)|(go_simp;rfl))
       intro a_7 hg w25 hbox hb
       have a_I:=a_a.mk (hbox)
       have b_9:=a_a.mk ((by rw [hg];exact (a_m (by repeat (first|(with_reducible first|exact HB.out|apply a_f|apply a_d|apply a_g|refine a_c ?_ a_P.out)|exact HB.out))) : w.heap.size ≤ a_7))
       have a_Y:=a_a.mk ((by rw [hg];exact (a_m (by repeat (first|(with_reducible first|exact HB.out|apply a_f|apply a_d|apply a_g|refine a_c ?_ a_P.out)|exact HB.out))) : w.heap.size ≤ a_7))
       have b_m:=a_a.mk ((by rw [hg];exact Nat.ne_of_lt (a_p (bup_ a_C.out)) : a_V ≠ a_7))
       have b_r:=a_a.mk ((by rw [hg];exact Nat.ne_of_gt (a_p (bup_ a_C.out)) : a_7 ≠ a_V))
       replace a_W:=a_a.mk (Kd.a_y (rup_ a_W.out) hb)
       replace b_i:=a_a.mk (Kd.a_y (rup_ b_i.out) hb)
       replace a_C:=a_a.mk (a_e (bup_ a_C.out) hb)
       replace HB:=a_a.mk (a_i (by repeat (first|(with_reducible first|exact HB.out|apply a_f|apply a_d|apply a_g|refine a_c ?_ a_P.out)|exact HB.out)) hb)
       clear hb hbox hg
       refine hK.out _ _ ⟨(a_j a_C.out 0).trans rfl,((HB.out.cell (World.block_lt_of_cell? w _ b_a)).trans b_a)⟩ (fun hHeld => ?_)
       clear hK K
       refine b_x (a':=?_) ?_ ?_
       rotate_left
       ·show Act.put _ (some 8) _ = _
        simp only [Act.put,List.setIfInBounds_toArray,List.set_cons_zero,List.set_cons_succ,a_K,a_J]
        rfl
       exact b_x (by first|(simp only [b_n,Act.put,List.setIfInBounds_toArray,List.set_cons_zero,List.set_cons_succ];done)|(simp only [b_n,Act.put,List.setIfInBounds_toArray,List.set_cons_zero,List.set_cons_succ];rfl)) (g_H (v318,v322,a_7) _ ⟨hHeld,(rup_ a_W.out),(rup_ b_i.out),(bup_ a_C.out),(bup_ a_I.out),b_9.out,a_Y.out,b_m.out,b_r.out,(by repeat (first|(with_reducible first|exact HB.out|apply a_f|apply a_d|apply a_g|refine a_c ?_ a_P.out|refine a_c ?_ a_Y.out)|exact HB.out))⟩)
      skip
      rintro ⟨v318,a_R,a_7⟩ w25 ⟨hS_,h0_,h1_,h2_,h3_,h4_,h5_,h6_,h7_,h8_,h9_,h10_,h11_,h12_,h13_,h14_⟩
      have a_W : a_a (Kd.R (Kd.int .u32) 31 w25 w.heap.size (fun _ => True) v318 t317):=⟨h0_⟩
      have a_x : a_a (w25.heap[a_R]? = some (.cells #[.slice none 0 0] 26 (0,0))):=⟨h2_⟩
      have a_I : a_a (w25.heap[a_7]? = some (.cells #[.slice none 0 0] 26 (0,0))):=⟨h3_⟩
      have b_8 : a_a (w.heap.size ≤ a_R):=⟨h4_⟩
      have a_X : a_a (w.heap.size ≤ a_R):=⟨h5_⟩
      have a_Z : a_a (a_V ≠ a_R):=⟨h6_⟩
      have a_3 : a_a (a_R ≠ a_V):=⟨h7_⟩
      have b_b : a_a (a_7 ≠ a_R):=⟨h8_⟩
      have b_c : a_a (a_R ≠ a_7):=⟨h9_⟩
      have b_9 : a_a (w.heap.size ≤ a_7):=⟨h10_⟩
      have a_Y : a_a (w.heap.size ≤ a_7):=⟨h11_⟩
      have b_m : a_a (a_V ≠ a_7):=⟨h12_⟩
      have b_r : a_a (a_7 ≠ a_V):=⟨h13_⟩
      replace a_C : a_a (w25.heap[a_V]? = some (.cells #[.slice A315_0 ((a_L l0 x25_1).f0).length c315_0] 26 (0,0))):=⟨h1_⟩
      replace HB : a_a (Below w.heap.size w w25):=⟨h14_⟩
      clear h0_ h1_ h2_ h3_ h4_ h5_ h6_ h7_ h8_ h9_ h10_ h11_ h12_ h13_ h14_
      have hHeld : w25.cell? ⟨a_V,0,none⟩ = some (.slice A315_0 ((a_L l0 x25_1).f0).length c315_0) ∧ w25.cell? ad315 = some (.slice A320_0 ((a_L l0 0).f0).length c320_0):=hS_
      refine b_x (a':=?_) ?_ ?_
      rotate_left
      ·simp only [b_n,Act.put,List.setIfInBounds_toArray,List.set_cons_zero,List.set_cons_succ]
       rfl
      refine one_ (i:=5) (N:=some 37) #[T_,T_,T_,T_,T_,T_,T_,T_,F_,F_] rfl rfl (c_a HT_.out (by kernel_rfl)) (by decide) (fun K hK => ?_)
      refine c_v Try.func11 (by kernel_rfl) rfl #[.agg #[.slice A320_0 ((a_L l0 0).f0).length c320_0]] (by rfl) rfl rfl (by (try simp only [List.map_toArray,List.map_cons,List.map_nil]);first|done|rfl|(simp only [List.length_drop,List.length_take];rfl)) ?_
      with_reducible refine (a_v.calls _ _ ((a_L l0 0).f0) t321 _ ?side1 ?side2 A14.out).mono ?_
      (case side1 => repeat (first|exact (Kd.a_8 d_0.out HB.out)|(with_reducible refine Kd.a_M ?_ _)|(with_reducible refine Kd.a_N ?_ _)|(with_reducible refine Kd.a_T ?_)))
      (case side2 => exact e_y.out)
      rintro e w26 ⟨v322,rfl,ho0,hb⟩
      refine ⟨_,rfl,?_⟩
      have b_i:=a_a.mk (Kd.b_y (Kd.c_t ho0 (Kd.R_lt (rup_ a_W.out))) (a_m (by repeat (first|(with_reducible first|exact HB.out|apply a_f|apply a_d|apply a_g|refine a_c ?_ a_P.out|refine a_c ?_ a_X.out|refine a_c ?_ a_Y.out)|exact HB.out))))
      replace a_W:=a_a.mk (Kd.b_T (rup_ a_W.out) (Kd.c_k ho0) hb)
      replace a_C:=a_a.mk (a_e (bup_ a_C.out) hb)
      replace a_x:=a_a.mk (a_e (bup_ a_x.out) hb)
      replace a_I:=a_a.mk (a_e (bup_ a_I.out) hb)
      replace HB:=a_a.mk (a_i (by repeat (first|(with_reducible first|exact HB.out|apply a_f|apply a_d|apply a_g|refine a_c ?_ a_P.out|refine a_c ?_ a_X.out|refine a_c ?_ a_Y.out)|exact HB.out)) hb)
      (try clear hb)
      (try clear hb2)
      (try clear hk)
      (try clear hi)
      (try clear ho0)
      refine hK.out _ _ ⟨(a_j a_C.out 0).trans rfl,((HB.out.cell (World.block_lt_of_cell? w _ b_a)).trans b_a)⟩ (fun hHeld => ?_)
      clear hK K
      refine b_x (a':=?_) ?_ ?_
      rotate_left
      ·show Act.put _ (some 37) _ = _
       simp only [Act.put,List.setIfInBounds_toArray,List.set_cons_zero,List.set_cons_succ,a_K,a_J]
       rfl
      exact b_x (by first|(simp only [b_n,Act.put,List.setIfInBounds_toArray,List.set_cons_zero,List.set_cons_succ];done)|(simp only [b_n,Act.put,List.setIfInBounds_toArray,List.set_cons_zero,List.set_cons_succ];rfl)) (d_1 (v318,v322,a_R,a_7) _ ⟨hHeld,(by (with_reducible repeat (first|apply Kd.a_5|apply Kd.a_1|apply Kd.a_0));exact Kd.b_v a_W.out (fun _ hk => hk.2)),(by (with_reducible repeat (first|apply Kd.a_5|apply Kd.a_1|apply Kd.a_0));exact Kd.b_v b_i.out (fun _ hk => hk.2)),(bup_ a_C.out),(bup_ a_x.out),(bup_ a_I.out),b_8.out,a_X.out,a_Z.out,a_3.out,b_b.out,b_c.out,b_9.out,a_Y.out,b_m.out,b_r.out,(by repeat (first|(with_reducible first|exact HB.out|apply a_f|apply a_d|apply a_g|refine a_c ?_ a_P.out|refine a_c ?_ a_X.out|refine a_c ?_ a_Y.out)|exact HB.out))⟩)
     skip
     rintro ⟨v318,v322,a_7⟩ w25 ⟨hS_,h0_,h1_,h2_,h3_,h4_,h5_,h6_,h7_,h8_⟩
     have a_W : a_a (Kd.R (Kd.int .u32) 31 w25 w.heap.size (fun k_ => some k_ ≠ (v322 : Value).ownBlock) v318 t317):=⟨h0_⟩
     have b_i : a_a (Kd.R (Kd.int .u32) 31 w25 w.heap.size (fun k_ => some k_ ≠ (v318 : Value).ownBlock) v322 t321):=⟨h1_⟩
     have a_I : a_a (w25.heap[a_7]? = some (.cells #[.slice none 0 0] 26 (0,0))):=⟨h3_⟩
     have b_9 : a_a (w.heap.size ≤ a_7):=⟨h4_⟩
     have a_Y : a_a (w.heap.size ≤ a_7):=⟨h5_⟩
     have b_m : a_a (a_V ≠ a_7):=⟨h6_⟩
     have b_r : a_a (a_7 ≠ a_V):=⟨h7_⟩
     replace a_C : a_a (w25.heap[a_V]? = some (.cells #[.slice A315_0 ((a_L l0 x25_1).f0).length c315_0] 26 (0,0))):=⟨h2_⟩
     replace HB : a_a (Below w.heap.size w w25):=⟨h8_⟩
     clear h0_ h1_ h2_ h3_ h4_ h5_ h6_ h7_ h8_
     have hHeld : w25.cell? ⟨a_V,0,none⟩ = some (.slice A315_0 ((a_L l0 x25_1).f0).length c315_0) ∧ w25.cell? ad315 = some (.slice A320_0 ((a_L l0 0).f0).length c320_0):=hS_
     refine b_x (a':=?_) ?_ ?_
     rotate_left
     ·simp only [b_n,Act.put,List.setIfInBounds_toArray,List.set_cons_zero,List.set_cons_succ]
      rfl
     refine one_ (i:=6) (N:=some 7) #[T_,T_,T_,T_,T_,T_,T_,T_,F_,F_] rfl rfl (c_a HT_.out (by kernel_rfl)) (by decide) (fun K hK => ?_)
     refine b_2 ?hg (N:=7) ?hd (cs:=#[.slice none 0 0]) (t:=26) ?hr ?_;(case hd => rfl);(case hg => rfl);(case hr => first|(go_simp;done)|(go_simp;rfl))
     intro a_R hg w26 hbox hb
     have a_x:=a_a.mk (hbox)
     have b_8:=a_a.mk ((by rw [hg];exact (a_m (by repeat (first|(with_reducible first|exact HB.out|apply a_f|apply a_d|apply a_g|refine a_c ?_ a_P.out|refine a_c ?_ a_Y.out)|exact HB.out))) : w.heap.size ≤ a_R))
     have a_X:=a_a.mk ((by rw [hg];exact (a_m (by repeat (first|(with_reducible first|exact HB.out|apply a_f|apply a_d|apply a_g|refine a_c ?_ a_P.out|refine a_c ?_ a_Y.out)|exact HB.out))) : w.heap.size ≤ a_R))
     have a_Z:=a_a.mk ((by rw [hg];exact Nat.ne_of_lt (a_p (bup_ a_C.out)) : a_V ≠ a_R))
     have a_3:=a_a.mk ((by rw [hg];exact Nat.ne_of_gt (a_p (bup_ a_C.out)) : a_R ≠ a_V))
     have b_b:=a_a.mk ((by rw [hg];exact Nat.ne_of_lt (a_p (bup_ a_I.out)) : a_7 ≠ a_R))
     have b_c:=a_a.mk ((by rw [hg];exact Nat.ne_of_gt (a_p (bup_ a_I.out)) : a_R ≠ a_7))
     replace a_W:=a_a.mk (Kd.a_y (rup_ a_W.out) hb)
     replace b_i:=a_a.mk (Kd.a_y (rup_ b_i.out) hb)
     replace a_C:=a_a.mk (a_e (bup_ a_C.out) hb)
     replace a_I:=a_a.mk (a_e (bup_ a_I.out) hb)
     replace HB:=a_a.mk (a_i (by repeat (first|(with_reducible first|exact HB.out|apply a_f|apply a_d|apply a_g|refine a_c ?_ a_P.out|refine a_c ?_ a_Y.out)|exact HB.out)) hb)
     clear hb hbox hg
     refine hK.out _ _ ⟨(a_j a_C.out 0).trans rfl,((HB.out.cell (World.block_lt_of_cell? w _ b_a)).trans b_a)⟩ (fun hHeld => ?_)
     clear hK K
     refine b_x (a':=?_) ?_ ?_
     rotate_left
     ·show Act.put _ (some 7) _ = _
      simp only [Act.put,List.setIfInBounds_toArray,List.set_cons_zero,List.set_cons_succ,a_K,a_J]
      rfl
     exact b_x (by first|(simp only [b_n,Act.put,List.setIfInBounds_toArray,List.set_cons_zero,List.set_cons_succ];done)|(simp only [b_n,Act.put,List.setIfInBounds_toArray,List.set_cons_zero,List.set_cons_succ];rfl)) (d_1 (v318,v322,a_R,a_7) _ ⟨hHeld,(rup_ a_W.out),(rup_ b_i.out),(bup_ a_C.out),(bup_ a_x.out),(bup_ a_I.out),b_8.out,a_X.out,a_Z.out,a_3.out,b_b.out,b_c.out,b_9.out,a_Y.out,b_m.out,b_r.out,(by repeat (first|(with_reducible first|exact HB.out|apply a_f|apply a_d|apply a_g|refine a_c ?_ a_P.out|refine a_c ?_ a_Y.out|refine a_c ?_ a_X.out)|exact HB.out))⟩)
    skip
    rintro ⟨v318,v322,a_R⟩ w25 ⟨hS_,h0_,h1_,h2_,h3_,h4_,h5_,h6_,h7_,h8_⟩
    have a_W : a_a (Kd.R (Kd.int .u32) 31 w25 w.heap.size (fun k_ => some k_ ≠ (v322 : Value).ownBlock) v318 t317):=⟨h0_⟩
    have b_i : a_a (Kd.R (Kd.int .u32) 31 w25 w.heap.size (fun k_ => some k_ ≠ (v318 : Value).ownBlock) v322 t321):=⟨h1_⟩
    have a_x : a_a (w25.heap[a_R]? = some (.cells #[.slice none 0 0] 26 (0,0))):=⟨h3_⟩
    have b_8 : a_a (w.heap.size ≤ a_R):=⟨h4_⟩
    have a_X : a_a (w.heap.size ≤ a_R):=⟨h5_⟩
    have a_Z : a_a (a_V ≠ a_R):=⟨h6_⟩
    have a_3 : a_a (a_R ≠ a_V):=⟨h7_⟩
    replace a_C : a_a (w25.heap[a_V]? = some (.cells #[.slice A315_0 ((a_L l0 x25_1).f0).length c315_0] 26 (0,0))):=⟨h2_⟩
    replace HB : a_a (Below w.heap.size w w25):=⟨h8_⟩
    clear h0_ h1_ h2_ h3_ h4_ h5_ h6_ h7_ h8_
    have hHeld : w25.cell? ⟨a_V,0,none⟩ = some (.slice A315_0 ((a_L l0 x25_1).f0).length c315_0) ∧ w25.cell? ad315 = some (.slice A320_0 ((a_L l0 0).f0).length c320_0):=hS_
    refine b_x (a':=?_) ?_ ?_
    rotate_left
    ·simp only [b_n,Act.put,List.setIfInBounds_toArray,List.set_cons_zero,List.set_cons_succ]
     rfl
    refine one_ (i:=7) (N:=some 8) #[T_,T_,T_,T_,T_,T_,T_,T_,F_,F_] rfl rfl (c_a HT_.out (by kernel_rfl)) (by decide) (fun K hK => ?_)
    refine b_2 ?hg (N:=8) ?hd (cs:=#[.slice none 0 0]) (t:=26) ?hr ?_;(case hd => rfl);(case hg => rfl);(case hr => first|(go_simp;done)|(go_simp;rfl))
    intro a_7 hg w26 hbox hb
    have a_I:=a_a.mk (hbox)
    have b_9:=a_a.mk ((by rw [hg];exact (a_m (by repeat (first|(with_reducible first|exact HB.out|apply a_f|apply a_d|apply a_g|refine a_c ?_ a_P.out|refine a_c ?_ a_X.out)|exact HB.out))) : w.heap.size ≤ a_7))
    have a_Y:=a_a.mk ((by rw [hg];exact (a_m (by repeat (first|(with_reducible first|exact HB.out|apply a_f|apply a_d|apply a_g|refine a_c ?_ a_P.out|refine a_c ?_ a_X.out)|exact HB.out))) : w.heap.size ≤ a_7))
    have b_m:=a_a.mk ((by rw [hg];exact Nat.ne_of_lt (a_p (bup_ a_C.out)) : a_V ≠ a_7))
    have b_r:=a_a.mk ((by rw [hg];exact Nat.ne_of_gt (a_p (bup_ a_C.out)) : a_7 ≠ a_V))
    have b_c:=a_a.mk ((by rw [hg];exact Nat.ne_of_lt (a_p (bup_ a_x.out)) : a_R ≠ a_7))
    have b_b:=a_a.mk ((by rw [hg];exact Nat.ne_of_gt (a_p (bup_ a_x.out)) : a_7 ≠ a_R))
    replace a_W:=a_a.mk (Kd.a_y (rup_ a_W.out) hb)
    replace b_i:=a_a.mk (Kd.a_y (rup_ b_i.out) hb)
    replace a_C:=a_a.mk (a_e (bup_ a_C.out) hb)
    replace a_x:=a_a.mk (a_e (bup_ a_x.out) hb)
    replace HB:=a_a.mk (a_i (by repeat (first|(with_reducible first|exact HB.out|apply a_f|apply a_d|apply a_g|refine a_c ?_ a_P.out|refine a_c ?_ a_X.out)|exact HB.out)) hb)
    clear hb hbox hg
    refine hK.out _ _ ⟨(a_j a_C.out 0).trans rfl,((HB.out.cell (World.block_lt_of_cell? w _ b_a)).trans b_a)⟩ (fun hHeld => ?_)
    clear hK K
    refine b_x (a':=?_) ?_ ?_
    rotate_left
    ·show Act.put _ (some 8) _ = _
     simp only [Act.put,List.setIfInBounds_toArray,List.set_cons_zero,List.set_cons_succ,a_K,a_J]
     rfl
    exact b_x (by first|(simp only [b_n,Act.put,List.setIfInBounds_toArray,List.set_cons_zero,List.set_cons_succ];done)|(simp only [b_n,Act.put,List.setIfInBounds_toArray,List.set_cons_zero,List.set_cons_succ];rfl)) (d_1 (v318,v322,a_R,a_7) _ ⟨hHeld,(rup_ a_W.out),(rup_ b_i.out),(bup_ a_C.out),(bup_ a_x.out),(bup_ a_I.out),b_8.out,a_X.out,a_Z.out,a_3.out,b_b.out,b_c.out,b_9.out,a_Y.out,b_m.out,b_r.out,(by repeat (first|(with_reducible first|exact HB.out|apply a_f|apply a_d|apply a_g|refine a_c ?_ a_P.out|refine a_c ?_ a_X.out|refine a_c ?_ a_Y.out)|exact HB.out))⟩)
   rintro ⟨v318,v322,a_R,a_7⟩ w26 ⟨hS_,h0_,h1_,h2_,h3_,h4_,h5_,h6_,h7_,h8_,h9_,h10_,h11_,h12_,h13_,h14_,h15_⟩
   have a_W : a_a (Kd.R (Kd.int .u32) 31 w26 w.heap.size (fun k_ => some k_ ≠ (v322 : Value).ownBlock) v318 t317):=⟨h0_⟩
   have b_i : a_a (Kd.R (Kd.int .u32) 31 w26 w.heap.size (fun k_ => some k_ ≠ (v318 : Value).ownBlock) v322 t321):=⟨h1_⟩
   have a_x : a_a (w26.heap[a_R]? = some (.cells #[.slice none 0 0] 26 (0,0))):=⟨h3_⟩
   have a_I : a_a (w26.heap[a_7]? = some (.cells #[.slice none 0 0] 26 (0,0))):=⟨h4_⟩
   have b_8 : a_a (w.heap.size ≤ a_R):=⟨h5_⟩
   have a_X : a_a (w.heap.size ≤ a_R):=⟨h6_⟩
   have a_Z : a_a (a_V ≠ a_R):=⟨h7_⟩
   have a_3 : a_a (a_R ≠ a_V):=⟨h8_⟩
   have b_b : a_a (a_7 ≠ a_R):=⟨h9_⟩
   have b_c : a_a (a_R ≠ a_7):=⟨h10_⟩
   have b_9 : a_a (w.heap.size ≤ a_7):=⟨h11_⟩
   have a_Y : a_a (w.heap.size ≤ a_7):=⟨h12_⟩
   have b_m : a_a (a_V ≠ a_7):=⟨h13_⟩
   have b_r : a_a (a_7 ≠ a_V):=⟨h14_⟩
   replace a_C : a_a (w26.heap[a_V]? = some (.cells #[.slice A315_0 ((a_L l0 x25_1).f0).length c315_0] 26 (0,0))):=⟨h2_⟩
   replace HB : a_a (Below w.heap.size w w26):=⟨h15_⟩
   clear h0_ h1_ h2_ h3_ h4_ h5_ h6_ h7_ h8_ h9_ h10_ h11_ h12_ h13_ h14_ h15_
   have hHeld : w26.cell? ⟨a_V,0,none⟩ = some (.slice A315_0 ((a_L l0 x25_1).f0).length c315_0) ∧ w26.cell? ad315 = some (.slice A320_0 ((a_L l0 0).f0).length c320_0):=hS_
   obtain ⟨Ao27,co27,eo27⟩:=Kd.b_D a_W.out
   (first|subst eo27|(injection eo27 with f1_ f2_ f3_;have f4_:=f1_.symm;have f5_:=f3_.symm;clear f1_ f2_ f3_;subst f4_;subst f5_))
   obtain ⟨Ao29,co29,eo29⟩:=Kd.b_D b_i.out
   (first|subst eo29|(injection eo29 with f1_ f2_ f3_;have f4_:=f1_.symm;have f5_:=f3_.symm;clear f1_ f2_ f3_;subst f4_;subst f5_))
   refine b_x (a':=?_) ?_ ?_
   rotate_left
   ·simp only [b_n,Act.put,List.setIfInBounds_toArray,List.set_cons_zero,List.set_cons_succ]
    rfl
   refine one_ (i:=8) (N:=none) #[T_,T_,T_,T_,T_,T_,T_,T_,T_,F_] rfl rfl (c_a HT_.out (by kernel_rfl)) (by decide) (fun K hK => ?_)
   have hs28 : w26.cell? ⟨a_R,0,none⟩ = some (.slice none 0 0):=(a_j a_x.out 0).trans rfl
   have hfs28:=a_k a_x.out 0
   have hns28_0:=a_Z.out
   have hns28_2:=b_b.out
   have hms28_0:=a_3.out
   have hms28_2:=b_c.out
   refine i_m (w1:=?_) (by rfl) rfl ?_ ?_
   rotate_left
   ·go_simp
    rfl
   refine hK.out _ _ ⟨((cell_far (p:=⟨a_R,_,none⟩) a_Z.out _).trans (hHeld.1)),((cell_far (p:=⟨a_R,_,none⟩) (by first|exact Nat.ne_of_lt (Nat.lt_of_lt_of_le (by have:=World.block_lt_of_cell? _ _ b_a;first|rwa [add_block] at this|exact this) b_8.out)|(rw [add_block];exact Nat.ne_of_lt (Nat.lt_of_lt_of_le (by have:=World.block_lt_of_cell? _ _ b_a;first|rwa [add_block] at this|exact this) b_8.out))|(show (Addr.add _ _).block ≠ _;rw [add_block];exact Nat.ne_of_lt (Nat.lt_of_lt_of_le (by have:=World.block_lt_of_cell? _ _ b_a;first|rwa [add_block] at this|exact this) b_8.out))|(dsimp only;exact Nat.ne_of_lt (Nat.lt_of_lt_of_le (by have:=World.block_lt_of_cell? _ _ b_a;first|rwa [add_block] at this|exact this) b_8.out))) _).trans (hHeld.2))⟩ (fun hHeld => ?_)
   clear hK K
   refine one_ (i:=9) (N:=none) #[T_,T_,T_,T_,T_,T_,T_,T_,T_,T_] rfl rfl (c_a HT_.out (by kernel_rfl)) (by decide) (fun K hK => ?_)
   have hs30 : w26.cell? ⟨a_7,0,none⟩ = some (.slice none 0 0):=(a_j a_I.out 0).trans rfl
   have hfs30:=a_k a_I.out 0
   have hns30_0:=b_m.out
   have hns30_1:=b_c.out
   have hms30_0:=b_r.out
   have hms30_1:=b_b.out
   refine i_m (w1:=?_) (by rfl) rfl ?_ ?_
   rotate_left
   ·go_simp
    rfl
   refine hK.out _ _ ⟨((cell_far (p:=⟨a_7,_,none⟩) b_m.out _).trans (hHeld.1)),((cell_far (p:=⟨a_7,_,none⟩) (by first|exact Nat.ne_of_lt (Nat.lt_of_lt_of_le (by have:=World.block_lt_of_cell? _ _ b_a;first|rwa [add_block] at this|exact this) b_9.out)|(rw [add_block];exact Nat.ne_of_lt (Nat.lt_of_lt_of_le (by have:=World.block_lt_of_cell? _ _ b_a;first|rwa [add_block] at this|exact this) b_9.out))|(show (Addr.add _ _).block ≠ _;rw [add_block];exact Nat.ne_of_lt (Nat.lt_of_lt_of_le (by have:=World.block_lt_of_cell? _ _ b_a;first|rwa [add_block] at this|exact this) b_9.out))|(dsimp only;exact Nat.ne_of_lt (Nat.lt_of_lt_of_le (by have:=World.block_lt_of_cell? _ _ b_a;first|rwa [add_block] at this|exact this) b_9.out))) _).trans (hHeld.2))⟩ (fun hHeld => ?_)
   clear hK K
   refine e_3 (c_Y HT_.out (by kernel_rfl)) ?_
   have k_l:=a_3.out
   have k_m:=a_Z.out
   have k_n:=b_c.out
   have k_o:=b_b.out
   have k_t : w26.cell? ⟨a_R,0,none⟩ = some (.slice none 0 0):=(a_j a_x.out 0).trans rfl
   have k_u:=a_k a_x.out 0
   go_upto_region 10 with (first|((with_reducible refine a_B (f:=16) rfl ?_);refine b_f (some 39) rfl rfl Try.func16 (by kernel_rfl) rfl #[.agg #[.slice Ao27 t317.length co27]] rfl (by (try simp only [List.map_toArray,List.map_cons,List.map_nil]);first|done|rfl|(simp only [List.length_drop,List.length_take];rfl)) ?_;(with_reducible refine (a_h.calls k1 _ _ t317 t326 _ ?side1 ?side2 A15.out).mono ?_);(case side1 => refine (Kd.a_r (e:=31) (base:=w.heap.size) (ok:=fun k_ => some k_ ≠ (.slice Ao29 t321.length co29 : Value).ownBlock) (n:=t317.length) (c:=co27) ?_).2.2;exact (by (with_reducible repeat (first|apply Kd.a_5|apply Kd.a_1|apply Kd.a_0));exact (Kd.b_v (Kd.b_v (Kd.c_g (p:=⟨a_7,0,none⟩) (Kd.c_g (p:=⟨a_R,0,none⟩) (Kd.b_F (Kd.b_F a_W.out a_x.out (by decide)) a_I.out (by decide)) (fun _ hk => hk.1.2) (.slice Ao27 t317.length co27)) (fun _ hk => hk.2) (.slice Ao29 t321.length co29)) (fun _ h_ => h_.1)) (fun _ h_ => h_.1))));(case side2 => exact (Kd.a_r a_W.out).2.1);rintro e w34 ⟨rfl,hb⟩;refine ⟨_,rfl,?_⟩;replace a_W:=a_a.mk (Kd.a_y (by (with_reducible repeat (first|apply Kd.a_5|apply Kd.a_1|apply Kd.a_0));exact (Kd.b_v (Kd.b_v (Kd.c_g (p:=⟨a_7,0,none⟩) (Kd.c_g (p:=⟨a_R,0,none⟩) (Kd.b_F (Kd.b_F a_W.out a_x.out (by decide)) a_I.out (by decide)) (fun _ hk => hk.1.2) (.slice Ao27 t317.length co27)) (fun _ hk => hk.2) (.slice Ao29 t321.length co29)) (fun _ h_ => h_.1)) (fun _ h_ => h_.1))) hb);replace b_i:=a_a.mk (Kd.a_y (by (with_reducible repeat (first|apply Kd.a_5|apply Kd.a_1|apply Kd.a_0));exact (Kd.b_v (Kd.b_v (Kd.c_g (p:=⟨a_7,0,none⟩) (Kd.c_g (p:=⟨a_R,0,none⟩) (Kd.b_F (Kd.b_F b_i.out a_x.out (by decide)) a_I.out (by decide)) (fun _ hk => hk.1.2) (.slice Ao27 t317.length co27)) (fun _ hk => hk.2) (.slice Ao29 t321.length co29)) (fun _ h_ => h_.1)) (fun _ h_ => h_.1))) hb);replace a_C:=a_a.mk (a_e (g:=a_V) (o:=.cells #[.slice A315_0 ((a_L l0 x25_1).f0).length c315_0] 26 (0,0)) (by (with_reducible repeat (first|refine a_u ?_ _|refine a_t ?_|refine a_w ?_ _));refine a_Q ?_ b_m.out _;(with_reducible repeat (first|refine a_u ?_ _|refine a_t ?_|refine a_w ?_ _));refine a_Q ?_ a_Z.out _;(with_reducible repeat (first|refine a_u ?_ _|refine a_t ?_|refine a_w ?_ _));exact a_C.out) hb);replace a_x:=a_a.mk (a_e (g:=a_R) (o:=.cells #[.slice Ao27 t317.length co27] 26 (0,0)) (by (with_reducible repeat (first|refine a_u ?_ _|refine a_t ?_|refine a_w ?_ _));refine a_Q ?_ b_c.out _;(with_reducible repeat (first|refine a_u ?_ _|refine a_t ?_|refine a_w ?_ _));refine b_q (cs:=#[.slice none 0 0]) ?_ 0 _ rfl;(with_reducible repeat (first|refine a_u ?_ _|refine a_t ?_|refine a_w ?_ _));exact a_x.out) hb);replace a_I:=a_a.mk (a_e (g:=a_7) (o:=.cells #[.slice Ao29 t321.length co29] 26 (0,0)) (by (with_reducible repeat (first|refine a_u ?_ _|refine a_t ?_|refine a_w ?_ _));refine b_q (cs:=#[.slice none 0 0]) ?_ 0 _ rfl;(with_reducible repeat (first|refine a_u ?_ _|refine a_t ?_|refine a_w ?_ _));refine a_Q ?_ b_b.out _;(with_reducible repeat (first|refine a_u ?_ _|refine a_t ?_|refine a_w ?_ _));exact a_I.out) hb);replace HB:=a_a.mk (a_i (by repeat (first|(with_reducible first|exact HB.out|apply a_f|apply a_d|apply a_g|refine a_c ?_ a_P.out|refine a_c ?_ a_X.out|refine a_c ?_ a_Y.out)|exact HB.out)) hb);(try clear hb);(try clear hb2);(try clear hk);(try clear hi);have h_W : w34.cell? ⟨a_R,0,none⟩ = some (.slice Ao27 t317.length co27):=(a_j a_x.out 0).trans rfl;have h_X:=a_k a_x.out 0)|((with_reducible refine a_B (f:=17) rfl ?_);refine b_f (some 41) rfl rfl Try.func17 (by kernel_rfl) rfl #[.agg #[.slice Ao27 t317.length co27]] rfl (by (try simp only [List.map_toArray,List.map_cons,List.map_nil]);first|done|rfl|(simp only [List.length_drop,List.length_take];rfl)) ?_;(with_reducible refine (a_s.calls k1 _ _ t317 t327 _ ?side1 ?side2 A16.out).mono ?_);(case side1 => repeat (first|exact (Kd.a_r a_W.out).2.2|(with_reducible refine Kd.a_M ?_ _)|(with_reducible refine Kd.a_N ?_ _)|(with_reducible refine Kd.a_T ?_)));(case side2 => exact (Kd.a_r a_W.out).2.1);rintro e w36 ⟨rfl,hb⟩;refine ⟨_,rfl,?_⟩;replace a_W:=a_a.mk (Kd.a_y (rup_ a_W.out) hb);replace b_i:=a_a.mk (Kd.a_y (rup_ b_i.out) hb);replace a_C:=a_a.mk (a_e (bup_ a_C.out) hb);replace a_x:=a_a.mk (a_e (bup_ a_x.out) hb);replace a_I:=a_a.mk (a_e (bup_ a_I.out) hb);replace HB:=a_a.mk (a_i (by repeat (first|(with_reducible first|exact HB.out|apply a_f|apply a_d|apply a_g|refine a_c ?_ a_P.out|refine a_c ?_ a_X.out|refine a_c ?_ a_Y.out)|exact HB.out)) hb);(try clear hb);(try clear hb2);(try clear hk);(try clear hi)))
   (try simp only [Act.put,List.setIfInBounds_toArray,List.set_cons_zero,List.set_cons_succ])
   go_cut [69] (fun v69 wc => ∃ (kq : Nat) (x69_16 : Bool),v69 = .bool x69_16 ∧ a_a (a_b.j1 kq l0 l1 t326 l0 (l0.length : Int) x25_1 x69_16 t317 = some r) ∧ a_a (kq ≤ k1) ∧ a_a (Kd.R (Kd.int .u32) 31 wc w.heap.size (fun k_ => some k_ ≠ ((.slice Ao29 t321.length co29) : Value).ownBlock) (.slice Ao27 t317.length co27) t317) ∧ a_a (Kd.R (Kd.int .u32) 31 wc w.heap.size (fun k_ => some k_ ≠ ((.slice Ao27 t317.length co27) : Value).ownBlock) (.slice Ao29 t321.length co29) t321) ∧ a_a (wc.heap[a_V]? = some (.cells #[(.slice A315_0 ((a_L l0 x25_1).f0).length c315_0)] 26 (0,0))) ∧ a_a (wc.heap[a_R]? = some (.cells #[(.slice Ao27 t317.length co27)] 26 (0,0))) ∧ a_a (wc.heap[a_7]? = some (.cells #[(.slice Ao29 t321.length co29)] 26 (0,0))) ∧ a_a (Below w.heap.size w wc))
   case first =>
    have H:=HC17.out
    clear HC17
    by_cases c37 : ((t327 == 0) != t326) = true
    ·rw [if_pos c37] at H
     have c37b0 : ((t327 == 0) != t326) = true:=c37
     (try (have c37b1 : decide ((t327 == 0) = t326) = false:=by simpa using c37))
     (try (have c37b2 : ((t327 == 0) == t326) = false:=by simpa using c37))
     (try (have c37b3 : ¬ ((t327 == 0) = t326):=by simpa using c37))
     clear c37
     (first|rw [c37b0]|(simp only [a_K,a_J];rw [c37b0])|skip)
     have H':=a_a.mk H
     clear H
     try go_wp2
     replace a_W:=a_a.mk (Kd.a_0 a_W.out)
     replace b_i:=a_a.mk (Kd.a_0 b_i.out)
     replace a_C:=a_a.mk (a_t a_C.out)
     replace a_x:=a_a.mk (a_t a_x.out)
     replace a_I:=a_a.mk (a_t a_I.out)
     replace HB:=a_a.mk (a_g HB.out)
     refine d_P (n:=28) (S:=fun w' => True) (ds:=[]) #[F_,F_,F_,F_,F_,F_,F_,F_,F_,F_,F_,F_,F_,F_,F_,F_,F_,F_,F_,F_,F_,F_,F_,F_,F_,F_,F_,F_] (by kernel_rfl) rfl rfl trivial (fun hHeld => ?_);refine c_o a_b.f_G a_b.e_f (fun HT_ HW_ => ?_)
     generalize w36.drew = w38 at a_W b_i a_C a_x a_I HB hHeld ⊢
     refine a_U (i:=0) (N:=some 42) (v:=?_) (a':=?_) #[T_,F_,F_,F_,F_,F_,F_,F_,F_,F_,F_,F_,F_,F_,F_,F_,F_,F_,F_,F_,F_,F_,F_,F_,F_,F_,F_,F_] rfl rfl (a_H HT_.out (by kernel_rfl)) (fun _ _ _ h => h) (Or.inl ⟨by rfl,?_⟩) ?_ ?_
     rotate_left
     ·intro w'
      go_simp
      with_reducible rfl
     rotate_left
     ·simp only [Act.put,List.setIfInBounds_toArray,List.set_cons_zero,List.set_cons_succ,a_K,a_J]
      rfl
     refine a_U (i:=1) (N:=some 43) (v:=?_) (a':=?_) #[T_,T_,F_,F_,F_,F_,F_,F_,F_,F_,F_,F_,F_,F_,F_,F_,F_,F_,F_,F_,F_,F_,F_,F_,F_,F_,F_,F_] rfl rfl (a_H HT_.out (by kernel_rfl)) (fun _ _ _ h => h) (Or.inl ⟨by rfl,?_⟩) ?_ ?_
     rotate_left
     ·intro w'
      go_simp
      with_reducible rfl
     rotate_left
     ·simp only [Act.put,List.setIfInBounds_toArray,List.set_cons_zero,List.set_cons_succ,a_K,a_J]
      rfl
     refine a_U (i:=2) (N:=some 44) (v:=?_) (a':=?_) #[T_,T_,T_,F_,F_,F_,F_,F_,F_,F_,F_,F_,F_,F_,F_,F_,F_,F_,F_,F_,F_,F_,F_,F_,F_,F_,F_,F_] rfl rfl (a_H HT_.out (by kernel_rfl)) (fun _ _ _ h => h) (Or.inl ⟨by rfl,?_⟩) ?_ ?_
     rotate_left
     ·intro w'
      go_simp
      with_reducible rfl
     rotate_left
     ·simp only [Act.put,List.setIfInBounds_toArray,List.set_cons_zero,List.set_cons_succ,a_K,a_J]
      rfl
     refine a_U (i:=3) (N:=some 45) (v:=?_) (a':=?_) #[T_,T_,T_,T_,F_,F_,F_,F_,F_,F_,F_,F_,F_,F_,F_,F_,F_,F_,F_,F_,F_,F_,F_,F_,F_,F_,F_,F_] rfl rfl (a_H HT_.out (by kernel_rfl)) (fun _ _ _ h => h) (Or.inl ⟨by rfl,?_⟩) ?_ ?_
     rotate_left
     ·intro w'
      go_simp
      with_reducible rfl
     rotate_left
     ·simp only [Act.put,List.setIfInBounds_toArray,List.set_cons_zero,List.set_cons_succ,a_K,a_J]
      rfl
     refine a_U (i:=4) (N:=some 46) (v:=?_) (a':=?_) #[T_,T_,T_,T_,T_,F_,F_,F_,F_,F_,F_,F_,F_,F_,F_,F_,F_,F_,F_,F_,F_,F_,F_,F_,F_,F_,F_,F_] rfl rfl (a_H HT_.out (by kernel_rfl)) (fun _ _ _ h => h) (Or.inl ⟨by rfl,?_⟩) ?_ ?_
     rotate_left
     ·intro w'
      go_simp
      with_reducible rfl
     rotate_left
     ·simp only [Act.put,List.setIfInBounds_toArray,List.set_cons_zero,List.set_cons_succ,a_K,a_J]
      rfl
     refine a_U (i:=5) (N:=some 47) (v:=undef) (a':=?_) #[T_,T_,T_,T_,T_,T_,F_,F_,F_,F_,F_,F_,F_,F_,F_,F_,F_,F_,F_,F_,F_,F_,F_,F_,F_,F_,F_,F_] rfl rfl (a_H HT_.out (by kernel_rfl)) (fun _ _ _ h => h) (Or.inr ⟨by rfl,rfl⟩) ?_ ?_
     rotate_left
     ·simp only [Act.put,List.setIfInBounds_toArray,List.set_cons_zero,List.set_cons_succ,a_K,a_J]
      rfl
     refine a_U (i:=6) (N:=some 48) (v:=undef) (a':=?_) #[T_,T_,T_,T_,T_,T_,T_,F_,F_,F_,F_,F_,F_,F_,F_,F_,F_,F_,F_,F_,F_,F_,F_,F_,F_,F_,F_,F_] rfl rfl (a_H HT_.out (by kernel_rfl)) (fun _ _ _ h => h) (Or.inr ⟨by rfl,rfl⟩) ?_ ?_
     rotate_left
     ·simp only [Act.put,List.setIfInBounds_toArray,List.set_cons_zero,List.set_cons_succ,a_K,a_J]
      rfl
     refine a_U (i:=7) (N:=some 49) (v:=undef) (a':=?_) #[T_,T_,T_,T_,T_,T_,T_,T_,F_,F_,F_,F_,F_,F_,F_,F_,F_,F_,F_,F_,F_,F_,F_,F_,F_,F_,F_,F_] rfl rfl (a_H HT_.out (by kernel_rfl)) (fun _ _ _ h => h) (Or.inr ⟨by rfl,rfl⟩) ?_ ?_
     rotate_left
     ·simp only [Act.put,List.setIfInBounds_toArray,List.set_cons_zero,List.set_cons_succ,a_K,a_J]
      rfl
     refine a_U (i:=8) (N:=some 50) (v:=undef) (a':=?_) #[T_,T_,T_,T_,T_,T_,T_,T_,T_,F_,F_,F_,F_,F_,F_,F_,F_,F_,F_,F_,F_,F_,F_,F_,F_,F_,F_,F_] rfl rfl (a_H HT_.out (by kernel_rfl)) (fun _ _ _ h => h) (Or.inr ⟨by rfl,rfl⟩) ?_ ?_
     rotate_left
     ·simp only [Act.put,List.setIfInBounds_toArray,List.set_cons_zero,List.set_cons_succ,a_K,a_J]
      rfl
     refine a_U (i:=9) (N:=some 51) (v:=undef) (a':=?_) #[T_,T_,T_,T_,T_,T_,T_,T_,T_,T_,F_,F_,F_,F_,F_,F_,F_,F_,F_,F_,F_,F_,F_,F_,F_,F_,F_,F_] rfl rfl (a_H HT_.out (by kernel_rfl)) (fun _ _ _ h => h) (Or.inr ⟨by rfl,rfl⟩) ?_ ?_
     rotate_left
     ·simp only [Act.put,List.setIfInBounds_toArray,List.set_cons_zero,List.set_cons_succ,a_K,a_J]
      rfl
     refine a_U (i:=10) (N:=some 52) (v:=undef) (a':=?_) #[T_,T_,T_,T_,T_,T_,T_,T_,T_,T_,T_,F_,F_,F_,F_,F_,F_,F_,F_,F_,F_,F_,F_,F_,F_,F_,F_,F_] rfl rfl (a_H HT_.out (by kernel_rfl)) (fun _ _ _ h => h) (Or.inr ⟨by rfl,rfl⟩) ?_ ?_
     rotate_left
     ·simp only [Act.put,List.setIfInBounds_toArray,List.set_cons_zero,List.set_cons_succ,a_K,a_J]
      rfl
     refine a_U (i:=11) (N:=some 53) (v:=?_) (a':=?_) #[T_,T_,T_,T_,T_,T_,T_,T_,T_,T_,T_,T_,F_,F_,F_,F_,F_,F_,F_,F_,F_,F_,F_,F_,F_,F_,F_,F_] rfl rfl (a_H HT_.out (by kernel_rfl)) (fun _ _ _ h => h) (Or.inl ⟨by rfl,?_⟩) ?_ ?_
     rotate_left
     ·intro w'
      go_simp
      with_reducible rfl
     rotate_left
     ·simp only [Act.put,List.setIfInBounds_toArray,List.set_cons_zero,List.set_cons_succ,a_K,a_J]
      rfl
     refine a_U (i:=12) (N:=some 54) (v:=?_) (a':=?_) #[T_,T_,T_,T_,T_,T_,T_,T_,T_,T_,T_,T_,T_,F_,F_,F_,F_,F_,F_,F_,F_,F_,F_,F_,F_,F_,F_,F_] rfl rfl (a_H HT_.out (by kernel_rfl)) (fun _ _ _ h => h) (Or.inl ⟨by rfl,?_⟩) ?_ ?_
     rotate_left
     ·intro w'
      go_simp
      with_reducible rfl
     rotate_left
     ·simp only [Act.put,List.setIfInBounds_toArray,List.set_cons_zero,List.set_cons_succ,a_K,a_J]
      rfl
     refine a_U (i:=13) (N:=some 55) (v:=undef) (a':=?_) #[T_,T_,T_,T_,T_,T_,T_,T_,T_,T_,T_,T_,T_,T_,F_,F_,F_,F_,F_,F_,F_,F_,F_,F_,F_,F_,F_,F_] rfl rfl (a_H HT_.out (by kernel_rfl)) (fun _ _ _ h => h) (Or.inr ⟨by rfl,rfl⟩) ?_ ?_
     rotate_left
     ·simp only [Act.put,List.setIfInBounds_toArray,List.set_cons_zero,List.set_cons_succ,a_K,a_J]
      rfl
     refine a_U (i:=14) (N:=some 56) (v:=undef) (a':=?_) #[T_,T_,T_,T_,T_,T_,T_,T_,T_,T_,T_,T_,T_,T_,T_,F_,F_,F_,F_,F_,F_,F_,F_,F_,F_,F_,F_,F_] rfl rfl (a_H HT_.out (by kernel_rfl)) (fun _ _ _ h => h) (Or.inr ⟨by rfl,rfl⟩) ?_ ?_
     rotate_left
     ·simp only [Act.put,List.setIfInBounds_toArray,List.set_cons_zero,List.set_cons_succ,a_K,a_J]
      rfl
     refine a_U (i:=15) (N:=some 57) (v:=undef) (a':=?_) #[T_,T_,T_,T_,T_,T_,T_,T_,T_,T_,T_,T_,T_,T_,T_,T_,F_,F_,F_,F_,F_,F_,F_,F_,F_,F_,F_,F_] rfl rfl (a_H HT_.out (by kernel_rfl)) (fun _ _ _ h => h) (Or.inr ⟨by rfl,rfl⟩) ?_ ?_
     rotate_left
     ·simp only [Act.put,List.setIfInBounds_toArray,List.set_cons_zero,List.set_cons_succ,a_K,a_J]
      rfl
     refine a_U (i:=16) (N:=some 58) (v:=undef) (a':=?_) #[T_,T_,T_,T_,T_,T_,T_,T_,T_,T_,T_,T_,T_,T_,T_,T_,T_,F_,F_,F_,F_,F_,F_,F_,F_,F_,F_,F_] rfl rfl (a_H HT_.out (by kernel_rfl)) (fun _ _ _ h => h) (Or.inr ⟨by rfl,rfl⟩) ?_ ?_
     rotate_left
     ·simp only [Act.put,List.setIfInBounds_toArray,List.set_cons_zero,List.set_cons_succ,a_K,a_J]
      rfl
     refine a_U (i:=17) (N:=some 59) (v:=undef) (a':=?_) #[T_,T_,T_,T_,T_,T_,T_,T_,T_,T_,T_,T_,T_,T_,T_,T_,T_,T_,F_,F_,F_,F_,F_,F_,F_,F_,F_,F_] rfl rfl (a_H HT_.out (by kernel_rfl)) (fun _ _ _ h => h) (Or.inr ⟨by rfl,rfl⟩) ?_ ?_
     rotate_left
     ·simp only [Act.put,List.setIfInBounds_toArray,List.set_cons_zero,List.set_cons_succ,a_K,a_J]
      rfl
     refine a_U (i:=18) (N:=some 60) (v:=undef) (a':=?_) #[T_,T_,T_,T_,T_,T_,T_,T_,T_,T_,T_,T_,T_,T_,T_,T_,T_,T_,T_,F_,F_,F_,F_,F_,F_,F_,F_,F_] rfl rfl (a_H HT_.out (by kernel_rfl)) (fun _ _ _ h => h) (Or.inr ⟨by rfl,rfl⟩) ?_ ?_
     rotate_left
     ·simp only [Act.put,List.setIfInBounds_toArray,List.set_cons_zero,List.set_cons_succ,a_K,a_J]
      rfl
     refine a_U (i:=19) (N:=some 61) (v:=undef) (a':=?_) #[T_,T_,T_,T_,T_,T_,T_,T_,T_,T_,T_,T_,T_,T_,T_,T_,T_,T_,T_,T_,F_,F_,F_,F_,F_,F_,F_,F_] rfl rfl (a_H HT_.out (by kernel_rfl)) (fun _ _ _ h => h) (Or.inr ⟨by rfl,rfl⟩) ?_ ?_
     rotate_left
     ·simp only [Act.put,List.setIfInBounds_toArray,List.set_cons_zero,List.set_cons_succ,a_K,a_J]
      rfl
     refine a_U (i:=20) (N:=some 62) (v:=?_) (a':=?_) #[T_,T_,T_,T_,T_,T_,T_,T_,T_,T_,T_,T_,T_,T_,T_,T_,T_,T_,T_,T_,T_,F_,F_,F_,F_,F_,F_,F_] rfl rfl (a_H HT_.out (by kernel_rfl)) (fun _ _ _ h => h) (Or.inl ⟨by rfl,?_⟩) ?_ ?_
     rotate_left
     ·intro w'
      go_simp
      with_reducible rfl
     rotate_left
     ·simp only [Act.put,List.setIfInBounds_toArray,List.set_cons_zero,List.set_cons_succ,a_K,a_J]
      rfl
     refine a_U (i:=21) (N:=some 63) (v:=?_) (a':=?_) #[T_,T_,T_,T_,T_,T_,T_,T_,T_,T_,T_,T_,T_,T_,T_,T_,T_,T_,T_,T_,T_,T_,F_,F_,F_,F_,F_,F_] rfl rfl (a_H HT_.out (by kernel_rfl)) (fun _ _ _ h => h) (Or.inl ⟨by rfl,?_⟩) ?_ ?_
     rotate_left
     ·intro w'
      go_simp
      with_reducible rfl
     rotate_left
     ·simp only [Act.put,List.setIfInBounds_toArray,List.set_cons_zero,List.set_cons_succ,a_K,a_J]
      rfl
     refine a_U (i:=22) (N:=some 64) (v:=undef) (a':=?_) #[T_,T_,T_,T_,T_,T_,T_,T_,T_,T_,T_,T_,T_,T_,T_,T_,T_,T_,T_,T_,T_,T_,T_,F_,F_,F_,F_,F_] rfl rfl (a_H HT_.out (by kernel_rfl)) (fun _ _ _ h => h) (Or.inr ⟨by rfl,rfl⟩) ?_ ?_
     rotate_left
     ·simp only [Act.put,List.setIfInBounds_toArray,List.set_cons_zero,List.set_cons_succ,a_K,a_J]
      rfl
     refine a_U (i:=23) (N:=some 65) (v:=undef) (a':=?_) #[T_,T_,T_,T_,T_,T_,T_,T_,T_,T_,T_,T_,T_,T_,T_,T_,T_,T_,T_,T_,T_,T_,T_,T_,F_,F_,F_,F_] rfl rfl (a_H HT_.out (by kernel_rfl)) (fun _ _ _ h => h) (Or.inr ⟨by rfl,rfl⟩) ?_ ?_
     rotate_left
     ·simp only [Act.put,List.setIfInBounds_toArray,List.set_cons_zero,List.set_cons_succ,a_K,a_J]
      rfl
     refine a_U (i:=24) (N:=some 66) (v:=undef) (a':=?_) #[T_,T_,T_,T_,T_,T_,T_,T_,T_,T_,T_,T_,T_,T_,T_,T_,T_,T_,T_,T_,T_,T_,T_,T_,T_,F_,F_,F_] rfl rfl (a_H HT_.out (by kernel_rfl)) (fun _ _ _ h => h) (Or.inr ⟨by rfl,rfl⟩) ?_ ?_
     rotate_left
     ·simp only [Act.put,List.setIfInBounds_toArray,List.set_cons_zero,List.set_cons_succ,a_K,a_J]
      rfl
     refine a_U (i:=25) (N:=some 67) (v:=undef) (a':=?_) #[T_,T_,T_,T_,T_,T_,T_,T_,T_,T_,T_,T_,T_,T_,T_,T_,T_,T_,T_,T_,T_,T_,T_,T_,T_,T_,F_,F_] rfl rfl (a_H HT_.out (by kernel_rfl)) (fun _ _ _ h => h) (Or.inr ⟨by rfl,rfl⟩) ?_ ?_
     rotate_left
     ·simp only [Act.put,List.setIfInBounds_toArray,List.set_cons_zero,List.set_cons_succ,a_K,a_J]
      rfl
     refine a_U (i:=26) (N:=some 68) (v:=undef) (a':=?_) #[T_,T_,T_,T_,T_,T_,T_,T_,T_,T_,T_,T_,T_,T_,T_,T_,T_,T_,T_,T_,T_,T_,T_,T_,T_,T_,T_,F_] rfl rfl (a_H HT_.out (by kernel_rfl)) (fun _ _ _ h => h) (Or.inr ⟨by rfl,rfl⟩) ?_ ?_
     rotate_left
     ·simp only [Act.put,List.setIfInBounds_toArray,List.set_cons_zero,List.set_cons_succ,a_K,a_J]
      rfl
     refine a_U (i:=27) (N:=some 69) (v:=?_) (a':=?_) #[T_,T_,T_,T_,T_,T_,T_,T_,T_,T_,T_,T_,T_,T_,T_,T_,T_,T_,T_,T_,T_,T_,T_,T_,T_,T_,T_,T_] rfl rfl (a_H HT_.out (by kernel_rfl)) (fun _ _ _ h => h) (Or.inl ⟨by rfl,?_⟩) ?_ ?_
     rotate_left
     ·intro w'
      go_simp
      with_reducible rfl
     rotate_left
     ·simp only [Act.put,List.setIfInBounds_toArray,List.set_cons_zero,List.set_cons_succ,a_K,a_J]
      rfl
     refine e_3 (c_Y HT_.out (by kernel_rfl)) ?_
     try go_wp2
     go_meet
     case rel => exact ⟨_,(true),(by first|rfl|(simp;done)|(simp [*];done)),H',⟨by have:=HK1.out;first|omega|exact Nat.le_refl _⟩,⟨by (with_reducible repeat (first|apply Kd.a_5|apply Kd.a_1|apply Kd.a_0));exact a_W.out⟩,⟨by (with_reducible repeat (first|apply Kd.a_5|apply Kd.a_1|apply Kd.a_0));exact b_i.out⟩,⟨by (with_reducible repeat (first|refine a_u ?_ _|refine a_t ?_|refine a_w ?_ _));exact a_C.out⟩,⟨by (with_reducible repeat (first|refine a_u ?_ _|refine a_t ?_|refine a_w ?_ _));exact a_x.out⟩,⟨by (with_reducible repeat (first|refine a_u ?_ _|refine a_t ?_|refine a_w ?_ _));exact a_I.out⟩,⟨by repeat (first|(with_reducible first|exact HB.out|apply a_f|apply a_d|apply a_g|refine a_c ?_ a_P.out|refine a_c ?_ a_X.out|refine a_c ?_ a_Y.out)|exact HB.out)⟩⟩
    rw [if_neg c37] at H
    have c37b0 : ((t327 == 0) != t326) = false:=by simpa using c37
    (try (have c37b1 : decide ((t327 == 0) = t326) = true:=by simpa using c37))
    (try (have c37b2 : ((t327 == 0) == t326) = true:=by simpa using c37))
    clear c37
    (first|rw [c37b0]|(simp only [a_K,a_J];rw [c37b0])|skip)
    by_cases c39 : t326 = true
    ·subst c39
     have H1 : ((a_O.f k1 t317 t321).bind fun t328 => ((a_o.f k1 t317 t321).bind fun t329 => (if (t328 != t329) = true then (a_b.j1 k1 l0 l1 true l0 (l0.length : Int) x25_1 true t317) else ((a_v.f ((a_L l0 x25_1).f0)).bind fun t330 => ((a_O.f k1 t317 t330).bind fun t333 => (a_b.j1 k1 l0 l1 true l0 (l0.length : Int) x25_1 (!t333) t317)))))) = some r:=by rw [if_pos rfl] at H;exact H
     clear H
     have H:=H1
     clear H1
     replace H:=Option.bind_eq_some_iff.mp H
     obtain ⟨t328,A400,H⟩:=H
     replace H : ((a_o.f k1 t317 t321).bind fun t329 => (if (t328 != t329) = true then (a_b.j1 k1 l0 l1 true l0 (l0.length : Int) x25_1 true t317) else ((a_v.f ((a_L l0 x25_1).f0)).bind fun t330 => ((a_O.f k1 t317 t330).bind fun t333 => (a_b.j1 k1 l0 l1 true l0 (l0.length : Int) x25_1 (!t333) t317))))) = some r:=H
     have A40:=a_a.mk A400
     clear A400
     replace H:=Option.bind_eq_some_iff.mp H
     obtain ⟨t329,A410,H⟩:=H
     replace H : (if (t328 != t329) = true then (a_b.j1 k1 l0 l1 true l0 (l0.length : Int) x25_1 true t317) else ((a_v.f ((a_L l0 x25_1).f0)).bind fun t330 => ((a_O.f k1 t317 t330).bind fun t333 => (a_b.j1 k1 l0 l1 true l0 (l0.length : Int) x25_1 (!t333) t317)))) = some r:=H
     have A41:=a_a.mk A410
     clear A410
     by_cases c42 : (t328 != t329) = true
     ·rw [if_pos c42] at H
      have c42b0 : (t328 != t329) = true:=c42
      (try (have c42b1 : decide (t328 = t329) = false:=by simpa using c42))
      (try (have c42b2 : (t328 == t329) = false:=by simpa using c42))
      (try (have c42b3 : ¬ (t328 = t329):=by simpa using c42))
      clear c42
      have H':=a_a.mk H
      clear H
      try go_wp2
      replace a_W:=a_a.mk (Kd.a_0 a_W.out)
      replace b_i:=a_a.mk (Kd.a_0 b_i.out)
      replace a_C:=a_a.mk (a_t a_C.out)
      replace a_x:=a_a.mk (a_t a_x.out)
      replace a_I:=a_a.mk (a_t a_I.out)
      replace HB:=a_a.mk (a_g HB.out)
      refine d_P (n:=28) (S:=fun w' => w'.cell? ⟨a_R,0,none⟩ = some (.slice Ao27 t317.length co27) ∧ w'.cell? ⟨a_7,0,none⟩ = some (.slice Ao29 t321.length co29)) (ds:=[]) #[F_,F_,F_,F_,F_,F_,F_,F_,F_,F_,F_,F_,F_,F_,F_,F_,F_,F_,F_,F_,F_,F_,F_,F_,F_,F_,F_,F_] (by kernel_rfl) rfl rfl ⟨(a_j a_x.out 0).trans rfl,(a_j a_I.out 0).trans rfl⟩ (fun hHeld => ?_);refine c_o a_b.f_G a_b.e_f (fun HT_ HW_ => ?_)
      generalize w36.drew = w43 at a_W b_i a_C a_x a_I HB hHeld ⊢
      refine a_U (i:=0) (N:=some 42) (v:=?_) (a':=?_) #[T_,F_,F_,F_,F_,F_,F_,F_,F_,F_,F_,F_,F_,F_,F_,F_,F_,F_,F_,F_,F_,F_,F_,F_,F_,F_,F_,F_] rfl rfl (a_H HT_.out (by kernel_rfl)) (fun _ _ _ h => h) (Or.inl ⟨by rfl,?_⟩) ?_ ?_
      rotate_left
      ·intro w'
       go_simp
       with_reducible rfl
      rotate_left
      ·simp only [Act.put,List.setIfInBounds_toArray,List.set_cons_zero,List.set_cons_succ,a_K,a_J]
       rfl
      refine a_U (i:=1) (N:=some 43) (v:=?_) (a':=?_) #[T_,T_,F_,F_,F_,F_,F_,F_,F_,F_,F_,F_,F_,F_,F_,F_,F_,F_,F_,F_,F_,F_,F_,F_,F_,F_,F_,F_] rfl rfl (a_H HT_.out (by kernel_rfl)) (fun _ _ _ h => h) (Or.inl ⟨by rfl,?_⟩) ?_ ?_
      rotate_left
      ·intro w'
       go_simp
       with_reducible rfl
      rotate_left
      ·simp only [Act.put,List.setIfInBounds_toArray,List.set_cons_zero,List.set_cons_succ,a_K,a_J]
       rfl
      refine a_U (i:=2) (N:=some 44) (v:=?_) (a':=?_) #[T_,T_,T_,F_,F_,F_,F_,F_,F_,F_,F_,F_,F_,F_,F_,F_,F_,F_,F_,F_,F_,F_,F_,F_,F_,F_,F_,F_] rfl rfl (a_H HT_.out (by kernel_rfl)) (fun _ _ _ h => h) (Or.inl ⟨by rfl,?_⟩) ?_ ?_
      rotate_left
      ·intro w'
       go_simp
       with_reducible rfl
      rotate_left
      ·simp only [Act.put,List.setIfInBounds_toArray,List.set_cons_zero,List.set_cons_succ,a_K,a_J]
       rfl
      refine a_U (i:=3) (N:=some 45) (v:=?_) (a':=?_) #[T_,T_,T_,T_,F_,F_,F_,F_,F_,F_,F_,F_,F_,F_,F_,F_,F_,F_,F_,F_,F_,F_,F_,F_,F_,F_,F_,F_] rfl rfl (a_H HT_.out (by kernel_rfl)) (fun _ _ _ h => h) (Or.inl ⟨by rfl,?_⟩) ?_ ?_
      rotate_left
      ·intro w'
       go_simp
       with_reducible rfl
      rotate_left
      ·simp only [Act.put,List.setIfInBounds_toArray,List.set_cons_zero,List.set_cons_succ,a_K,a_J]
       rfl
      refine a_U (i:=4) (N:=some 46) (v:=?_) (a':=?_) #[T_,T_,T_,T_,T_,F_,F_,F_,F_,F_,F_,F_,F_,F_,F_,F_,F_,F_,F_,F_,F_,F_,F_,F_,F_,F_,F_,F_] rfl rfl (a_H HT_.out (by kernel_rfl)) (fun _ _ _ h => h) (Or.inl ⟨by rfl,?_⟩) ?_ ?_
      rotate_left
      ·intro w'
       go_simp
       with_reducible rfl
      rotate_left
      ·simp only [Act.put,List.setIfInBounds_toArray,List.set_cons_zero,List.set_cons_succ,a_K,a_J]
       rfl
      refine a_U (i:=5) (N:=some 47) (v:=?_) (a':=?_) #[T_,T_,T_,T_,T_,T_,F_,F_,F_,F_,F_,F_,F_,F_,F_,F_,F_,F_,F_,F_,F_,F_,F_,F_,F_,F_,F_,F_] rfl rfl (a_H HT_.out (by kernel_rfl)) (fun _ _ _ h => h) (Or.inl ⟨by rfl,?_⟩) ?_ ?_
      rotate_left
      ·intro w'
       go_simp
       with_reducible rfl
      rotate_left
      ·simp only [Act.put,List.setIfInBounds_toArray,List.set_cons_zero,List.set_cons_succ,a_K,a_J]
       rfl
      refine a_U (i:=6) (N:=some 48) (v:=?_) (a':=?_) #[T_,T_,T_,T_,T_,T_,T_,F_,F_,F_,F_,F_,F_,F_,F_,F_,F_,F_,F_,F_,F_,F_,F_,F_,F_,F_,F_,F_] rfl rfl (a_H HT_.out (by kernel_rfl)) (fun _ _ _ h => h) (Or.inl ⟨by rfl,?_⟩) ?_ ?_
      rotate_left
      ·intro w'
       go_simp
       with_reducible rfl
      rotate_left
      ·simp only [Act.put,List.setIfInBounds_toArray,List.set_cons_zero,List.set_cons_succ,a_K,a_J]
       rfl
      refine a_U (i:=7) (N:=some 49) (v:=?_) (a':=?_) #[T_,T_,T_,T_,T_,T_,T_,T_,F_,F_,F_,F_,F_,F_,F_,F_,F_,F_,F_,F_,F_,F_,F_,F_,F_,F_,F_,F_] rfl rfl (a_H HT_.out (by kernel_rfl)) (fun _ _ _ h => h) (Or.inl ⟨by rfl,?_⟩) ?_ ?_
      rotate_left
      ·intro w'
       go_simp
       with_reducible rfl
      rotate_left
      ·simp only [Act.put,List.setIfInBounds_toArray,List.set_cons_zero,List.set_cons_succ,a_K,a_J]
       rfl
      refine a_U (i:=8) (N:=some 50) (v:=undef) (a':=?_) #[T_,T_,T_,T_,T_,T_,T_,T_,T_,F_,F_,F_,F_,F_,F_,F_,F_,F_,F_,F_,F_,F_,F_,F_,F_,F_,F_,F_] rfl rfl (a_H HT_.out (by kernel_rfl)) (fun _ _ _ h => h) (Or.inr ⟨by rfl,rfl⟩) ?_ ?_
      rotate_left
      ·simp only [Act.put,List.setIfInBounds_toArray,List.set_cons_zero,List.set_cons_succ,a_K,a_J]
       rfl
      refine a_U (i:=9) (N:=some 51) (v:=undef) (a':=?_) #[T_,T_,T_,T_,T_,T_,T_,T_,T_,T_,F_,F_,F_,F_,F_,F_,F_,F_,F_,F_,F_,F_,F_,F_,F_,F_,F_,F_] rfl rfl (a_H HT_.out (by kernel_rfl)) (fun _ _ _ h => h) (Or.inr ⟨by rfl,rfl⟩) ?_ ?_
      rotate_left
      ·simp only [Act.put,List.setIfInBounds_toArray,List.set_cons_zero,List.set_cons_succ,a_K,a_J]
       rfl
      refine a_U (i:=10) (N:=some 52) (v:=?_) (a':=?_) #[T_,T_,T_,T_,T_,T_,T_,T_,T_,T_,T_,F_,F_,F_,F_,F_,F_,F_,F_,F_,F_,F_,F_,F_,F_,F_,F_,F_] rfl rfl (a_H HT_.out (by kernel_rfl)) (fun _ _ _ h => h) (Or.inl ⟨by rfl,?_⟩) ?_ ?_
      rotate_left
      ·intro w'
       go_simp
       with_reducible rfl
      rotate_left
      ·simp only [Act.put,List.setIfInBounds_toArray,List.set_cons_zero,List.set_cons_succ,a_K,a_J]
       rfl
      refine a_U (i:=11) (N:=some 53) (v:=?_) (a':=?_) #[T_,T_,T_,T_,T_,T_,T_,T_,T_,T_,T_,T_,F_,F_,F_,F_,F_,F_,F_,F_,F_,F_,F_,F_,F_,F_,F_,F_] rfl rfl (a_H HT_.out (by kernel_rfl)) (fun _ _ _ h => h) (Or.inl ⟨by rfl,?_⟩) ?_ ?_
      rotate_left
      ·intro w'
       go_simp
       with_reducible rfl
      rotate_left
      ·simp only [Act.put,List.setIfInBounds_toArray,List.set_cons_zero,List.set_cons_succ,a_K,a_J]
       rfl
      refine a_U (i:=12) (N:=some 54) (v:=?_) (a':=?_) #[T_,T_,T_,T_,T_,T_,T_,T_,T_,T_,T_,T_,T_,F_,F_,F_,F_,F_,F_,F_,F_,F_,F_,F_,F_,F_,F_,F_] rfl rfl (a_H HT_.out (by kernel_rfl)) (fun _ _ _ h => h) (Or.inl ⟨by rfl,?_⟩) ?_ ?_
      rotate_left
      ·intro w'
       go_simp
       with_reducible rfl
      rotate_left
      ·simp only [Act.put,List.setIfInBounds_toArray,List.set_cons_zero,List.set_cons_succ,a_K,a_J]
       rfl
      refine c_f (i:=13) (N:=some 55) (v:=?_) (a':=?_) #[T_,T_,T_,T_,T_,T_,T_,T_,T_,T_,T_,T_,T_,T_,F_,F_,F_,F_,F_,F_,F_,F_,F_,F_,F_,F_,F_,F_] rfl rfl (b_B HT_.out HW_.out (by kernel_rfl)) (fun _ _ _ h => h) (Or.inl ⟨by rfl,?_⟩) hHeld ?_ ?_
      rotate_left
      ·rintro w' ⟨s0,s1⟩
       go_simp
       with_reducible rfl
      rotate_left
      ·simp only [Act.put,List.setIfInBounds_toArray,List.set_cons_zero,List.set_cons_succ,a_K,a_J]
       rfl
      refine c_f (i:=14) (N:=some 56) (v:=?_) (a':=?_) #[T_,T_,T_,T_,T_,T_,T_,T_,T_,T_,T_,T_,T_,T_,T_,F_,F_,F_,F_,F_,F_,F_,F_,F_,F_,F_,F_,F_] rfl rfl (b_B HT_.out HW_.out (by kernel_rfl)) (fun _ _ _ h => h) (Or.inl ⟨by rfl,?_⟩) hHeld ?_ ?_
      rotate_left
      ·rintro w' ⟨s0,s1⟩
       go_simp
       with_reducible rfl
      rotate_left
      ·simp only [Act.put,List.setIfInBounds_toArray,List.set_cons_zero,List.set_cons_succ,a_K,a_J]
       rfl
      refine c_f (i:=16) (N:=some 58) (v:=?_) (a':=?_) #[T_,T_,T_,T_,T_,T_,T_,T_,T_,T_,T_,T_,T_,T_,T_,F_,T_,F_,F_,F_,F_,F_,F_,F_,F_,F_,F_,F_] rfl rfl (b_B HT_.out HW_.out (by kernel_rfl)) (fun _ _ _ h => h) (Or.inl ⟨by rfl,?_⟩) hHeld ?_ ?_
      rotate_left
      ·rintro w' ⟨s0,s1⟩
       go_simp
       with_reducible rfl
      rotate_left
      ·simp only [Act.put,List.setIfInBounds_toArray,List.set_cons_zero,List.set_cons_succ,a_K,a_J]
       rfl
      refine c_f (i:=17) (N:=some 59) (v:=?_) (a':=?_) #[T_,T_,T_,T_,T_,T_,T_,T_,T_,T_,T_,T_,T_,T_,T_,F_,T_,T_,F_,F_,F_,F_,F_,F_,F_,F_,F_,F_] rfl rfl (b_B HT_.out HW_.out (by kernel_rfl)) (fun _ _ _ h => h) (Or.inl ⟨by rfl,?_⟩) hHeld ?_ ?_
      rotate_left
      ·rintro w' ⟨s0,s1⟩
       go_simp
       with_reducible rfl
      rotate_left
      ·simp only [Act.put,List.setIfInBounds_toArray,List.set_cons_zero,List.set_cons_succ,a_K,a_J]
       rfl
      refine one_ (i:=15) (N:=some 57) #[T_,T_,T_,T_,T_,T_,T_,T_,T_,T_,T_,T_,T_,T_,T_,T_,T_,T_,F_,F_,F_,F_,F_,F_,F_,F_,F_,F_] rfl rfl (c_a HT_.out (by kernel_rfl)) (by decide) (fun K hK => ?_)
      refine c_v Try.func18 (by kernel_rfl) rfl #[.agg #[.slice Ao27 t317.length co27],.agg #[.slice Ao29 t321.length co29]] (by rfl) rfl rfl (by (try simp only [List.map_toArray,List.map_cons,List.map_nil]);first|done|rfl|(simp only [List.length_drop,List.length_take];rfl)) ?_
      with_reducible refine (a_O.calls k1 _ _ t317 _ _ t321 t328 _ ?side1 ?side2 ?side3 ?side4 A40.out).mono ?_
      (case side1 => repeat (first|exact (Kd.a_r a_W.out).2.2|(with_reducible refine Kd.a_M ?_ _)|(with_reducible refine Kd.a_N ?_ _)|(with_reducible refine Kd.a_T ?_)))
      (case side2 => exact (Kd.a_r a_W.out).2.1)
      (case side3 => repeat (first|exact (Kd.a_r b_i.out).2.2|(with_reducible refine Kd.a_M ?_ _)|(with_reducible refine Kd.a_N ?_ _)|(with_reducible refine Kd.a_T ?_)))
      (case side4 => exact (Kd.a_r b_i.out).2.1)
      rintro e w44 ⟨rfl,hb⟩
      refine ⟨_,rfl,?_⟩
      replace a_W:=a_a.mk (Kd.a_y (rup_ a_W.out) hb)
      replace b_i:=a_a.mk (Kd.a_y (rup_ b_i.out) hb)
      replace a_C:=a_a.mk (a_e (bup_ a_C.out) hb)
      replace a_x:=a_a.mk (a_e (bup_ a_x.out) hb)
      replace a_I:=a_a.mk (a_e (bup_ a_I.out) hb)
      replace HB:=a_a.mk (a_i (by repeat (first|(with_reducible first|exact HB.out|apply a_f|apply a_d|apply a_g|refine a_c ?_ a_P.out|refine a_c ?_ a_X.out|refine a_c ?_ a_Y.out)|exact HB.out)) hb)
      (try clear hb)
      (try clear hb2)
      (try clear hk)
      (try clear hi)
      refine hK.out _ _ ⟨(a_j a_x.out 0).trans rfl,(a_j a_I.out 0).trans rfl⟩ (fun hHeld => ?_)
      clear hK K
      refine b_x (a':=?_) ?_ ?_
      rotate_left
      ·show Act.put _ (some 57) _ = _
       simp only [Act.put,List.setIfInBounds_toArray,List.set_cons_zero,List.set_cons_succ,a_K,a_J]
       rfl
      refine one_ (i:=18) (N:=some 60) #[T_,T_,T_,T_,T_,T_,T_,T_,T_,T_,T_,T_,T_,T_,T_,T_,T_,T_,T_,F_,F_,F_,F_,F_,F_,F_,F_,F_] rfl rfl (c_a HT_.out (by kernel_rfl)) (by decide) (fun K hK => ?_)
      refine c_v Try.func14 (by kernel_rfl) rfl #[.agg #[.slice Ao27 t317.length co27],.agg #[.slice Ao29 t321.length co29]] (by rfl) rfl rfl (by (try simp only [List.map_toArray,List.map_cons,List.map_nil]);first|done|rfl|(simp only [List.length_drop,List.length_take];rfl)) ?_
      with_reducible refine (a_o.calls k1 _ _ t317 _ _ t321 t329 _ ?side1 ?side2 ?side3 ?side4 A41.out).mono ?_
      (case side1 => repeat (first|exact (Kd.a_r a_W.out).2.2|(with_reducible refine Kd.a_M ?_ _)|(with_reducible refine Kd.a_N ?_ _)|(with_reducible refine Kd.a_T ?_)))
      (case side2 => exact (Kd.a_r a_W.out).2.1)
      (case side3 => repeat (first|exact (Kd.a_r b_i.out).2.2|(with_reducible refine Kd.a_M ?_ _)|(with_reducible refine Kd.a_N ?_ _)|(with_reducible refine Kd.a_T ?_)))
      (case side4 => exact (Kd.a_r b_i.out).2.1)
      rintro e w45 ⟨rfl,hb⟩
      refine ⟨_,rfl,?_⟩
      replace a_W:=a_a.mk (Kd.a_y (rup_ a_W.out) hb)
      replace b_i:=a_a.mk (Kd.a_y (rup_ b_i.out) hb)
      replace a_C:=a_a.mk (a_e (bup_ a_C.out) hb)
      replace a_x:=a_a.mk (a_e (bup_ a_x.out) hb)
      replace a_I:=a_a.mk (a_e (bup_ a_I.out) hb)
      replace HB:=a_a.mk (a_i (by repeat (first|(with_reducible first|exact HB.out|apply a_f|apply a_d|apply a_g|refine a_c ?_ a_P.out|refine a_c ?_ a_X.out|refine a_c ?_ a_Y.out)|exact HB.out)) hb)
      (try clear hb)
      (try clear hb2)
      (try clear hk)
      (try clear hi)
      refine hK.out _ _ ⟨(a_j a_x.out 0).trans rfl,(a_j a_I.out 0).trans rfl⟩ (fun hHeld => ?_)
      clear hK K
      refine b_x (a':=?_) ?_ ?_
      rotate_left
      ·show Act.put _ (some 60) _ = _
       simp only [Act.put,List.setIfInBounds_toArray,List.set_cons_zero,List.set_cons_succ,a_K,a_J]
       rfl
      refine a_U (i:=19) (N:=some 61) (v:=?_) (a':=?_) #[T_,T_,T_,T_,T_,T_,T_,T_,T_,T_,T_,T_,T_,T_,T_,T_,T_,T_,T_,T_,F_,F_,F_,F_,F_,F_,F_,F_] rfl rfl (a_H HT_.out (by kernel_rfl)) (fun _ _ _ h => h) (Or.inl ⟨by rfl,?_⟩) ?_ ?_
      rotate_left
      ·intro w'
       go_simp
       with_reducible rfl
      rotate_left
      ·simp only [Act.put,List.setIfInBounds_toArray,List.set_cons_zero,List.set_cons_succ,a_K,a_J]
       rfl
      refine a_U (i:=20) (N:=some 62) (v:=?_) (a':=?_) #[T_,T_,T_,T_,T_,T_,T_,T_,T_,T_,T_,T_,T_,T_,T_,T_,T_,T_,T_,T_,T_,F_,F_,F_,F_,F_,F_,F_] rfl rfl (a_H HT_.out (by kernel_rfl)) (fun _ _ _ h => h) (Or.inl ⟨by rfl,?_⟩) ?_ ?_
      rotate_left
      ·intro w'
       go_simp
       with_reducible rfl
      rotate_left
      ·simp only [Act.put,List.setIfInBounds_toArray,List.set_cons_zero,List.set_cons_succ,a_K,a_J]
       rfl
      refine a_U (i:=21) (N:=some 63) (v:=?_) (a':=?_) #[T_,T_,T_,T_,T_,T_,T_,T_,T_,T_,T_,T_,T_,T_,T_,T_,T_,T_,T_,T_,T_,T_,F_,F_,F_,F_,F_,F_] rfl rfl (a_H HT_.out (by kernel_rfl)) (fun _ _ _ h => h) (Or.inl ⟨by rfl,?_⟩) ?_ ?_
      rotate_left
      ·intro w'
       go_simp
       with_reducible rfl
      rotate_left
      ·simp only [Act.put,List.setIfInBounds_toArray,List.set_cons_zero,List.set_cons_succ,a_K,a_J]
       rfl
      refine a_U (i:=22) (N:=some 64) (v:=undef) (a':=?_) #[T_,T_,T_,T_,T_,T_,T_,T_,T_,T_,T_,T_,T_,T_,T_,T_,T_,T_,T_,T_,T_,T_,T_,F_,F_,F_,F_,F_] rfl rfl (a_H HT_.out (by kernel_rfl)) (fun _ _ _ h => h) (Or.inr ⟨by rfl,rfl⟩) ?_ ?_
      rotate_left
      ·simp only [Act.put,List.setIfInBounds_toArray,List.set_cons_zero,List.set_cons_succ,a_K,a_J]
       rfl
      refine a_U (i:=23) (N:=some 65) (v:=undef) (a':=?_) #[T_,T_,T_,T_,T_,T_,T_,T_,T_,T_,T_,T_,T_,T_,T_,T_,T_,T_,T_,T_,T_,T_,T_,T_,F_,F_,F_,F_] rfl rfl (a_H HT_.out (by kernel_rfl)) (fun _ _ _ h => h) (Or.inr ⟨by rfl,rfl⟩) ?_ ?_
      rotate_left
      ·simp only [Act.put,List.setIfInBounds_toArray,List.set_cons_zero,List.set_cons_succ,a_K,a_J]
       rfl
      refine a_U (i:=24) (N:=some 66) (v:=undef) (a':=?_) #[T_,T_,T_,T_,T_,T_,T_,T_,T_,T_,T_,T_,T_,T_,T_,T_,T_,T_,T_,T_,T_,T_,T_,T_,T_,F_,F_,F_] rfl rfl (a_H HT_.out (by kernel_rfl)) (fun _ _ _ h => h) (Or.inr ⟨by rfl,rfl⟩) ?_ ?_
      rotate_left
      ·simp only [Act.put,List.setIfInBounds_toArray,List.set_cons_zero,List.set_cons_succ,a_K,a_J]
       rfl
      refine a_U (i:=25) (N:=some 67) (v:=undef) (a':=?_) #[T_,T_,T_,T_,T_,T_,T_,T_,T_,T_,T_,T_,T_,T_,T_,T_,T_,T_,T_,T_,T_,T_,T_,T_,T_,T_,F_,F_] rfl rfl (a_H HT_.out (by kernel_rfl)) (fun _ _ _ h => h) (Or.inr ⟨by rfl,rfl⟩) ?_ ?_
      rotate_left
      ·simp only [Act.put,List.setIfInBounds_toArray,List.set_cons_zero,List.set_cons_succ,a_K,a_J]
       rfl
      refine a_U (i:=26) (N:=some 68) (v:=undef) (a':=?_) #[T_,T_,T_,T_,T_,T_,T_,T_,T_,T_,T_,T_,T_,T_,T_,T_,T_,T_,T_,T_,T_,T_,T_,T_,T_,T_,T_,F_] rfl rfl (a_H HT_.out (by kernel_rfl)) (fun _ _ _ h => h) (Or.inr ⟨by rfl,rfl⟩) ?_ ?_
      rotate_left
      ·simp only [Act.put,List.setIfInBounds_toArray,List.set_cons_zero,List.set_cons_succ,a_K,a_J]
       rfl
      refine a_U (i:=27) (N:=some 69) (v:=?_) (a':=?_) #[T_,T_,T_,T_,T_,T_,T_,T_,T_,T_,T_,T_,T_,T_,T_,T_,T_,T_,T_,T_,T_,T_,T_,T_,T_,T_,T_,T_] rfl rfl (a_H HT_.out (by kernel_rfl)) (fun _ _ _ h => h) (Or.inl ⟨by rfl,?_⟩) ?_ ?_
      rotate_left
      ·intro w'
       go_simp
       with_reducible rfl
      rotate_left
      ·simp only [Act.put,List.setIfInBounds_toArray,List.set_cons_zero,List.set_cons_succ,a_K,a_J]
       rfl
      refine e_3 (c_Y HT_.out (by kernel_rfl)) ?_
      try go_wp2
      go_meet
      case rel => exact ⟨_,(true),(by first|rfl|(simp;done)|(simp [*];done)),H',⟨by have:=HK1.out;first|omega|exact Nat.le_refl _⟩,⟨by (with_reducible repeat (first|apply Kd.a_5|apply Kd.a_1|apply Kd.a_0));exact a_W.out⟩,⟨by (with_reducible repeat (first|apply Kd.a_5|apply Kd.a_1|apply Kd.a_0));exact b_i.out⟩,⟨by (with_reducible repeat (first|refine a_u ?_ _|refine a_t ?_|refine a_w ?_ _));exact a_C.out⟩,⟨by (with_reducible repeat (first|refine a_u ?_ _|refine a_t ?_|refine a_w ?_ _));exact a_x.out⟩,⟨by (with_reducible repeat (first|refine a_u ?_ _|refine a_t ?_|refine a_w ?_ _));exact a_I.out⟩,⟨by repeat (first|(with_reducible first|exact HB.out|apply a_f|apply a_d|apply a_g|refine a_c ?_ a_P.out|refine a_c ?_ a_X.out|refine a_c ?_ a_Y.out)|exact HB.out)⟩⟩
     rw [if_neg c42] at H
     have c42b0 : (t328 != t329) = false:=by simpa using c42
     (try (have c42b1 : decide (t328 = t329) = true:=by simpa using c42))
     (try (have c42b2 : (t328 == t329) = true:=by simpa using c42))
     clear c42
     replace H:=Option.bind_eq_some_iff.mp H
     obtain ⟨t330,A460,H⟩:=H
     replace H : ((a_O.f k1 t317 t330).bind fun t333 => (a_b.j1 k1 l0 l1 true l0 (l0.length : Int) x25_1 (!t333) t317)) = some r:=H
     have A46:=a_a.mk A460
     clear A460
     replace H:=Option.bind_eq_some_iff.mp H
     obtain ⟨t333,A470,H⟩:=H
     replace H : (a_b.j1 k1 l0 l1 true l0 (l0.length : Int) x25_1 (!t333) t317) = some r:=H
     have A47:=a_a.mk A470
     clear A470
     have H':=a_a.mk H
     clear H
     try go_wp2
     replace a_W:=a_a.mk (Kd.a_0 a_W.out)
     replace b_i:=a_a.mk (Kd.a_0 b_i.out)
     replace a_C:=a_a.mk (a_t a_C.out)
     replace a_x:=a_a.mk (a_t a_x.out)
     replace a_I:=a_a.mk (a_t a_I.out)
     replace HB:=a_a.mk (a_g HB.out)
     refine d_P (n:=28) (S:=fun w' => w'.cell? ⟨a_R,0,none⟩ = some (.slice Ao27 t317.length co27) ∧ w'.cell? ⟨a_7,0,none⟩ = some (.slice Ao29 t321.length co29) ∧ w'.cell? ⟨a_V,0,none⟩ = some (.slice A315_0 ((a_L l0 x25_1).f0).length c315_0)) (ds:=[]) #[F_,F_,F_,F_,F_,F_,F_,F_,F_,F_,F_,F_,F_,F_,F_,F_,F_,F_,F_,F_,F_,F_,F_,F_,F_,F_,F_,F_] (by kernel_rfl) rfl rfl ⟨(a_j a_x.out 0).trans rfl,(a_j a_I.out 0).trans rfl,(a_j a_C.out 0).trans rfl⟩ (fun hHeld => ?_);refine c_o a_b.f_G a_b.e_f (fun HT_ HW_ => ?_)
     generalize w36.drew = w48 at a_W b_i a_C a_x a_I HB hHeld ⊢
     refine a_U (i:=0) (N:=some 42) (v:=?_) (a':=?_) #[T_,F_,F_,F_,F_,F_,F_,F_,F_,F_,F_,F_,F_,F_,F_,F_,F_,F_,F_,F_,F_,F_,F_,F_,F_,F_,F_,F_] rfl rfl (a_H HT_.out (by kernel_rfl)) (fun _ _ _ h => h) (Or.inl ⟨by rfl,?_⟩) ?_ ?_
     rotate_left
     ·intro w'
      go_simp
      with_reducible rfl
     rotate_left
     ·simp only [Act.put,List.setIfInBounds_toArray,List.set_cons_zero,List.set_cons_succ,a_K,a_J]
      rfl
     refine a_U (i:=1) (N:=some 43) (v:=?_) (a':=?_) #[T_,T_,F_,F_,F_,F_,F_,F_,F_,F_,F_,F_,F_,F_,F_,F_,F_,F_,F_,F_,F_,F_,F_,F_,F_,F_,F_,F_] rfl rfl (a_H HT_.out (by kernel_rfl)) (fun _ _ _ h => h) (Or.inl ⟨by rfl,?_⟩) ?_ ?_
     rotate_left
     ·intro w'
      go_simp
      with_reducible rfl
     rotate_left
     ·simp only [Act.put,List.setIfInBounds_toArray,List.set_cons_zero,List.set_cons_succ,a_K,a_J]
      rfl
     refine a_U (i:=2) (N:=some 44) (v:=?_) (a':=?_) #[T_,T_,T_,F_,F_,F_,F_,F_,F_,F_,F_,F_,F_,F_,F_,F_,F_,F_,F_,F_,F_,F_,F_,F_,F_,F_,F_,F_] rfl rfl (a_H HT_.out (by kernel_rfl)) (fun _ _ _ h => h) (Or.inl ⟨by rfl,?_⟩) ?_ ?_
     rotate_left
     ·intro w'
      go_simp
      with_reducible rfl
     rotate_left
     ·simp only [Act.put,List.setIfInBounds_toArray,List.set_cons_zero,List.set_cons_succ,a_K,a_J]
      rfl
     refine a_U (i:=3) (N:=some 45) (v:=?_) (a':=?_) #[T_,T_,T_,T_,F_,F_,F_,F_,F_,F_,F_,F_,F_,F_,F_,F_,F_,F_,F_,F_,F_,F_,F_,F_,F_,F_,F_,F_] rfl rfl (a_H HT_.out (by kernel_rfl)) (fun _ _ _ h => h) (Or.inl ⟨by rfl,?_⟩) ?_ ?_
     rotate_left
     ·intro w'
      go_simp
      with_reducible rfl
     rotate_left
     ·simp only [Act.put,List.setIfInBounds_toArray,List.set_cons_zero,List.set_cons_succ,a_K,a_J]
      rfl
     refine a_U (i:=4) (N:=some 46) (v:=?_) (a':=?_) #[T_,T_,T_,T_,T_,F_,F_,F_,F_,F_,F_,F_,F_,F_,F_,F_,F_,F_,F_,F_,F_,F_,F_,F_,F_,F_,F_,F_] rfl rfl (a_H HT_.out (by kernel_rfl)) (fun _ _ _ h => h) (Or.inl ⟨by rfl,?_⟩) ?_ ?_
     rotate_left
     ·intro w'
      go_simp
      with_reducible rfl
     rotate_left
     ·simp only [Act.put,List.setIfInBounds_toArray,List.set_cons_zero,List.set_cons_succ,a_K,a_J]
      rfl
     refine a_U (i:=5) (N:=some 47) (v:=?_) (a':=?_) #[T_,T_,T_,T_,T_,T_,F_,F_,F_,F_,F_,F_,F_,F_,F_,F_,F_,F_,F_,F_,F_,F_,F_,F_,F_,F_,F_,F_] rfl rfl (a_H HT_.out (by kernel_rfl)) (fun _ _ _ h => h) (Or.inl ⟨by rfl,?_⟩) ?_ ?_
     rotate_left
     ·intro w'
      go_simp
      with_reducible rfl
     rotate_left
     ·simp only [Act.put,List.setIfInBounds_toArray,List.set_cons_zero,List.set_cons_succ,a_K,a_J]
      rfl
     refine a_U (i:=6) (N:=some 48) (v:=?_) (a':=?_) #[T_,T_,T_,T_,T_,T_,T_,F_,F_,F_,F_,F_,F_,F_,F_,F_,F_,F_,F_,F_,F_,F_,F_,F_,F_,F_,F_,F_] rfl rfl (a_H HT_.out (by kernel_rfl)) (fun _ _ _ h => h) (Or.inl ⟨by rfl,?_⟩) ?_ ?_
     rotate_left
     ·intro w'
      go_simp
      with_reducible rfl
     rotate_left
     ·simp only [Act.put,List.setIfInBounds_toArray,List.set_cons_zero,List.set_cons_succ,a_K,a_J]
      rfl
     refine a_U (i:=7) (N:=some 49) (v:=?_) (a':=?_) #[T_,T_,T_,T_,T_,T_,T_,T_,F_,F_,F_,F_,F_,F_,F_,F_,F_,F_,F_,F_,F_,F_,F_,F_,F_,F_,F_,F_] rfl rfl (a_H HT_.out (by kernel_rfl)) (fun _ _ _ h => h) (Or.inl ⟨by rfl,?_⟩) ?_ ?_
     rotate_left
     ·intro w'
      go_simp
      with_reducible rfl
     rotate_left
     ·simp only [Act.put,List.setIfInBounds_toArray,List.set_cons_zero,List.set_cons_succ,a_K,a_J]
      rfl
     refine a_U (i:=8) (N:=some 50) (v:=undef) (a':=?_) #[T_,T_,T_,T_,T_,T_,T_,T_,T_,F_,F_,F_,F_,F_,F_,F_,F_,F_,F_,F_,F_,F_,F_,F_,F_,F_,F_,F_] rfl rfl (a_H HT_.out (by kernel_rfl)) (fun _ _ _ h => h) (Or.inr ⟨by rfl,rfl⟩) ?_ ?_
     rotate_left
     ·simp only [Act.put,List.setIfInBounds_toArray,List.set_cons_zero,List.set_cons_succ,a_K,a_J]
      rfl
     refine a_U (i:=9) (N:=some 51) (v:=undef) (a':=?_) #[T_,T_,T_,T_,T_,T_,T_,T_,T_,T_,F_,F_,F_,F_,F_,F_,F_,F_,F_,F_,F_,F_,F_,F_,F_,F_,F_,F_] rfl rfl (a_H HT_.out (by kernel_rfl)) (fun _ _ _ h => h) (Or.inr ⟨by rfl,rfl⟩) ?_ ?_
     rotate_left
     ·simp only [Act.put,List.setIfInBounds_toArray,List.set_cons_zero,List.set_cons_succ,a_K,a_J]
      rfl
     refine a_U (i:=10) (N:=some 52) (v:=?_) (a':=?_) #[T_,T_,T_,T_,T_,T_,T_,T_,T_,T_,T_,F_,F_,F_,F_,F_,F_,F_,F_,F_,F_,F_,F_,F_,F_,F_,F_,F_] rfl rfl (a_H HT_.out (by kernel_rfl)) (fun _ _ _ h => h) (Or.inl ⟨by rfl,?_⟩) ?_ ?_
     rotate_left
     ·intro w'
      go_simp
      with_reducible rfl
     rotate_left
     ·simp only [Act.put,List.setIfInBounds_toArray,List.set_cons_zero,List.set_cons_succ,a_K,a_J]
      rfl
     refine a_U (i:=11) (N:=some 53) (v:=?_) (a':=?_) #[T_,T_,T_,T_,T_,T_,T_,T_,T_,T_,T_,T_,F_,F_,F_,F_,F_,F_,F_,F_,F_,F_,F_,F_,F_,F_,F_,F_] rfl rfl (a_H HT_.out (by kernel_rfl)) (fun _ _ _ h => h) (Or.inl ⟨by rfl,?_⟩) ?_ ?_
     rotate_left
     ·intro w'
      go_simp
      with_reducible rfl
     rotate_left
     ·simp only [Act.put,List.setIfInBounds_toArray,List.set_cons_zero,List.set_cons_succ,a_K,a_J]
      rfl
     refine a_U (i:=12) (N:=some 54) (v:=?_) (a':=?_) #[T_,T_,T_,T_,T_,T_,T_,T_,T_,T_,T_,T_,T_,F_,F_,F_,F_,F_,F_,F_,F_,F_,F_,F_,F_,F_,F_,F_] rfl rfl (a_H HT_.out (by kernel_rfl)) (fun _ _ _ h => h) (Or.inl ⟨by rfl,?_⟩) ?_ ?_
     rotate_left
     ·intro w'
      go_simp
      with_reducible rfl
     rotate_left
     ·simp only [Act.put,List.setIfInBounds_toArray,List.set_cons_zero,List.set_cons_succ,a_K,a_J]
      rfl
     refine c_f (i:=13) (N:=some 55) (v:=?_) (a':=?_) #[T_,T_,T_,T_,T_,T_,T_,T_,T_,T_,T_,T_,T_,T_,F_,F_,F_,F_,F_,F_,F_,F_,F_,F_,F_,F_,F_,F_] rfl rfl (b_B HT_.out HW_.out (by kernel_rfl)) (fun _ _ _ h => h) (Or.inl ⟨by rfl,?_⟩) hHeld ?_ ?_
     rotate_left
     ·rintro w' ⟨s0,s1,s2⟩
      go_simp
      with_reducible rfl
     rotate_left
     ·simp only [Act.put,List.setIfInBounds_toArray,List.set_cons_zero,List.set_cons_succ,a_K,a_J]
      rfl
     refine c_f (i:=14) (N:=some 56) (v:=?_) (a':=?_) #[T_,T_,T_,T_,T_,T_,T_,T_,T_,T_,T_,T_,T_,T_,T_,F_,F_,F_,F_,F_,F_,F_,F_,F_,F_,F_,F_,F_] rfl rfl (b_B HT_.out HW_.out (by kernel_rfl)) (fun _ _ _ h => h) (Or.inl ⟨by rfl,?_⟩) hHeld ?_ ?_
     rotate_left
     ·rintro w' ⟨s0,s1,s2⟩
      go_simp
      with_reducible rfl
     rotate_left
     ·simp only [Act.put,List.setIfInBounds_toArray,List.set_cons_zero,List.set_cons_succ,a_K,a_J]
      rfl
     refine c_f (i:=16) (N:=some 58) (v:=?_) (a':=?_) #[T_,T_,T_,T_,T_,T_,T_,T_,T_,T_,T_,T_,T_,T_,T_,F_,T_,F_,F_,F_,F_,F_,F_,F_,F_,F_,F_,F_] rfl rfl (b_B HT_.out HW_.out (by kernel_rfl)) (fun _ _ _ h => h) (Or.inl ⟨by rfl,?_⟩) hHeld ?_ ?_
     rotate_left
     ·rintro w' ⟨s0,s1,s2⟩
      go_simp
      with_reducible rfl
     rotate_left
     ·simp only [Act.put,List.setIfInBounds_toArray,List.set_cons_zero,List.set_cons_succ,a_K,a_J]
      rfl
     refine c_f (i:=17) (N:=some 59) (v:=?_) (a':=?_) #[T_,T_,T_,T_,T_,T_,T_,T_,T_,T_,T_,T_,T_,T_,T_,F_,T_,T_,F_,F_,F_,F_,F_,F_,F_,F_,F_,F_] rfl rfl (b_B HT_.out HW_.out (by kernel_rfl)) (fun _ _ _ h => h) (Or.inl ⟨by rfl,?_⟩) hHeld ?_ ?_
     rotate_left
     ·rintro w' ⟨s0,s1,s2⟩
      go_simp
      with_reducible rfl
     rotate_left
     ·simp only [Act.put,List.setIfInBounds_toArray,List.set_cons_zero,List.set_cons_succ,a_K,a_J]
      rfl
     refine one_ (i:=15) (N:=some 57) #[T_,T_,T_,T_,T_,T_,T_,T_,T_,T_,T_,T_,T_,T_,T_,T_,T_,T_,F_,F_,F_,F_,F_,F_,F_,F_,F_,F_] rfl rfl (c_a HT_.out (by kernel_rfl)) (by decide) (fun K hK => ?_)
     refine c_v Try.func18 (by kernel_rfl) rfl #[.agg #[.slice Ao27 t317.length co27],.agg #[.slice Ao29 t321.length co29]] (by rfl) rfl rfl (by (try simp only [List.map_toArray,List.map_cons,List.map_nil]);first|done|rfl|(simp only [List.length_drop,List.length_take];rfl)) ?_
     with_reducible refine (a_O.calls k1 _ _ t317 _ _ t321 t328 _ ?side1 ?side2 ?side3 ?side4 A40.out).mono ?_
     (case side1 => repeat (first|exact (Kd.a_r a_W.out).2.2|(with_reducible refine Kd.a_M ?_ _)|(with_reducible refine Kd.a_N ?_ _)|(with_reducible refine Kd.a_T ?_)))
     (case side2 => exact (Kd.a_r a_W.out).2.1)
     (case side3 => repeat (first|exact (Kd.a_r b_i.out).2.2|(with_reducible refine Kd.a_M ?_ _)|(with_reducible refine Kd.a_N ?_ _)|(with_reducible refine Kd.a_T ?_)))
     (case side4 => exact (Kd.a_r b_i.out).2.1)
     rintro e w49 ⟨rfl,hb⟩
     refine ⟨_,rfl,?_⟩
     replace a_W:=a_a.mk (Kd.a_y (rup_ a_W.out) hb)
     replace b_i:=a_a.mk (Kd.a_y (rup_ b_i.out) hb)
     replace a_C:=a_a.mk (a_e (bup_ a_C.out) hb)
     replace a_x:=a_a.mk (a_e (bup_ a_x.out) hb)
     replace a_I:=a_a.mk (a_e (bup_ a_I.out) hb)
     replace HB:=a_a.mk (a_i (by repeat (first|(with_reducible first|exact HB.out|apply a_f|apply a_d|apply a_g|refine a_c ?_ a_P.out|refine a_c ?_ a_X.out|refine a_c ?_ a_Y.out)|exact HB.out)) hb)
     (try clear hb)
     (try clear hb2)
     (try clear hk)
     (try clear hi)
     refine hK.out _ _ ⟨(a_j a_x.out 0).trans rfl,(a_j a_I.out 0).trans rfl,(a_j a_C.out 0).trans rfl⟩ (fun hHeld => ?_)
     clear hK K
     refine b_x (a':=?_) ?_ ?_
     rotate_left
     ·show Act.put _ (some 57) _ = _
      simp only [Act.put,List.setIfInBounds_toArray,List.set_cons_zero,List.set_cons_succ,a_K,a_J]
      rfl
     refine one_ (i:=18) (N:=some 60) #[T_,T_,T_,T_,T_,T_,T_,T_,T_,T_,T_,T_,T_,T_,T_,T_,T_,T_,T_,F_,F_,F_,F_,F_,F_,F_,F_,F_] rfl rfl (c_a HT_.out (by kernel_rfl)) (by decide) (fun K hK => ?_)
     refine c_v Try.func14 (by kernel_rfl) rfl #[.agg #[.slice Ao27 t317.length co27],.agg #[.slice Ao29 t321.length co29]] (by rfl) rfl rfl (by (try simp only [List.map_toArray,List.map_cons,List.map_nil]);first|done|rfl|(simp only [List.length_drop,List.length_take];rfl)) ?_
     with_reducible refine (a_o.calls k1 _ _ t317 _ _ t321 t329 _ ?side1 ?side2 ?side3 ?side4 A41.out).mono ?_
     (case side1 => repeat (first|exact (Kd.a_r a_W.out).2.2|(with_reducible refine Kd.a_M ?_ _)|(with_reducible refine Kd.a_N ?_ _)|(with_reducible refine Kd.a_T ?_)))
     (case side2 => exact (Kd.a_r a_W.out).2.1)
     (case side3 => repeat (first|exact (Kd.a_r b_i.out).2.2|(with_reducible refine Kd.a_M ?_ _)|(with_reducible refine Kd.a_N ?_ _)|(with_reducible refine Kd.a_T ?_)))
     (case side4 => exact (Kd.a_r b_i.out).2.1)
     rintro e w50 ⟨rfl,hb⟩
     refine ⟨_,rfl,?_⟩
     replace a_W:=a_a.mk (Kd.a_y (rup_ a_W.out) hb)
     replace b_i:=a_a.mk (Kd.a_y (rup_ b_i.out) hb)
     replace a_C:=a_a.mk (a_e (bup_ a_C.out) hb)
     replace a_x:=a_a.mk (a_e (bup_ a_x.out) hb)
     replace a_I:=a_a.mk (a_e (bup_ a_I.out) hb)
     replace HB:=a_a.mk (a_i (by repeat (first|(with_reducible first|exact HB.out|apply a_f|apply a_d|apply a_g|refine a_c ?_ a_P.out|refine a_c ?_ a_X.out|refine a_c ?_ a_Y.out)|exact HB.out)) hb)
     (try clear hb)
     (try clear hb2)
     (try clear hk)
     (try clear hi)
     refine hK.out _ _ ⟨(a_j a_x.out 0).trans rfl,(a_j a_I.out 0).trans rfl,(a_j a_C.out 0).trans rfl⟩ (fun hHeld => ?_)
     clear hK K
     refine b_x (a':=?_) ?_ ?_
     rotate_left
     ·show Act.put _ (some 60) _ = _
      simp only [Act.put,List.setIfInBounds_toArray,List.set_cons_zero,List.set_cons_succ,a_K,a_J]
      rfl
     refine a_U (i:=19) (N:=some 61) (v:=?_) (a':=?_) #[T_,T_,T_,T_,T_,T_,T_,T_,T_,T_,T_,T_,T_,T_,T_,T_,T_,T_,T_,T_,F_,F_,F_,F_,F_,F_,F_,F_] rfl rfl (a_H HT_.out (by kernel_rfl)) (fun _ _ _ h => h) (Or.inl ⟨by rfl,?_⟩) ?_ ?_
     rotate_left
     ·intro w'
      go_simp
      with_reducible rfl
     rotate_left
     ·simp only [Act.put,List.setIfInBounds_toArray,List.set_cons_zero,List.set_cons_succ,a_K,a_J]
      rfl
     refine a_U (i:=20) (N:=some 62) (v:=?_) (a':=?_) #[T_,T_,T_,T_,T_,T_,T_,T_,T_,T_,T_,T_,T_,T_,T_,T_,T_,T_,T_,T_,T_,F_,F_,F_,F_,F_,F_,F_] rfl rfl (a_H HT_.out (by kernel_rfl)) (fun _ _ _ h => h) (Or.inl ⟨by rfl,?_⟩) ?_ ?_
     rotate_left
     ·intro w'
      go_simp
      with_reducible rfl
     rotate_left
     ·simp only [Act.put,List.setIfInBounds_toArray,List.set_cons_zero,List.set_cons_succ,a_K,a_J]
      rfl
     refine a_U (i:=21) (N:=some 63) (v:=?_) (a':=?_) #[T_,T_,T_,T_,T_,T_,T_,T_,T_,T_,T_,T_,T_,T_,T_,T_,T_,T_,T_,T_,T_,T_,F_,F_,F_,F_,F_,F_] rfl rfl (a_H HT_.out (by kernel_rfl)) (fun _ _ _ h => h) (Or.inl ⟨by rfl,?_⟩) ?_ ?_
     rotate_left
     ·intro w'
      go_simp
      with_reducible rfl
     rotate_left
     ·simp only [Act.put,List.setIfInBounds_toArray,List.set_cons_zero,List.set_cons_succ,a_K,a_J]
      rfl
     refine c_f (i:=22) (N:=some 64) (v:=?_) (a':=?_) #[T_,T_,T_,T_,T_,T_,T_,T_,T_,T_,T_,T_,T_,T_,T_,T_,T_,T_,T_,T_,T_,T_,T_,F_,F_,F_,F_,F_] rfl rfl (b_B HT_.out HW_.out (by kernel_rfl)) (fun _ _ _ h => h) (Or.inl ⟨by rfl,?_⟩) hHeld ?_ ?_
     rotate_left
     ·rintro w' ⟨s0,s1,s2⟩
      go_simp
      with_reducible rfl
     rotate_left
     ·simp only [Act.put,List.setIfInBounds_toArray,List.set_cons_zero,List.set_cons_succ,a_K,a_J]
      rfl
     refine c_f (i:=23) (N:=some 65) (v:=?_) (a':=?_) #[T_,T_,T_,T_,T_,T_,T_,T_,T_,T_,T_,T_,T_,T_,T_,T_,T_,T_,T_,T_,T_,T_,T_,T_,F_,F_,F_,F_] rfl rfl (b_B HT_.out HW_.out (by kernel_rfl)) (fun _ _ _ h => h) (Or.inl ⟨by rfl,?_⟩) hHeld ?_ ?_
     rotate_left
     ·rintro w' ⟨s0,s1,s2⟩
      go_simp
      with_reducible rfl
     rotate_left
     ·simp only [Act.put,List.setIfInBounds_toArray,List.set_cons_zero,List.set_cons_succ,a_K,a_J]
      rfl
     refine one_ (i:=24) (N:=some 66) #[T_,T_,T_,T_,T_,T_,T_,T_,T_,T_,T_,T_,T_,T_,T_,T_,T_,T_,T_,T_,T_,T_,T_,T_,T_,F_,F_,F_] rfl rfl (c_a HT_.out (by kernel_rfl)) (by decide) (fun K hK => ?_)
     refine c_v Try.func11 (by kernel_rfl) rfl #[.agg #[.slice A315_0 ((a_L l0 x25_1).f0).length c315_0]] (by rfl) rfl rfl (by (try simp only [List.map_toArray,List.map_cons,List.map_nil]);first|done|rfl|(simp only [List.length_drop,List.length_take];rfl)) ?_
     with_reducible refine (a_v.calls _ _ ((a_L l0 x25_1).f0) t330 _ ?side1 ?side2 A46.out).mono ?_
     (case side1 => repeat (first|exact (Kd.a_8 c_7.out HB.out)|(with_reducible refine Kd.a_M ?_ _)|(with_reducible refine Kd.a_N ?_ _)|(with_reducible refine Kd.a_T ?_)))
     (case side2 => exact c_8.out)
     rintro e w51 ⟨v331,rfl,ho0,hb⟩
     refine ⟨_,rfl,?_⟩
     have g_I:=a_a.mk (Kd.b_y (Kd.c_t (Kd.c_t ho0 (Kd.R_lt (rup_ a_W.out))) (Kd.R_lt (rup_ b_i.out))) (a_m (by repeat (first|(with_reducible first|exact HB.out|apply a_f|apply a_d|apply a_g|refine a_c ?_ a_P.out|refine a_c ?_ a_X.out|refine a_c ?_ a_Y.out)|exact HB.out))))
     replace a_W:=a_a.mk (Kd.b_T (rup_ a_W.out) (Kd.c_k ho0) hb)
     replace b_i:=a_a.mk (Kd.b_T (rup_ b_i.out) (Kd.c_k ho0) hb)
     replace a_C:=a_a.mk (a_e (bup_ a_C.out) hb)
     replace a_x:=a_a.mk (a_e (bup_ a_x.out) hb)
     replace a_I:=a_a.mk (a_e (bup_ a_I.out) hb)
     replace HB:=a_a.mk (a_i (by repeat (first|(with_reducible first|exact HB.out|apply a_f|apply a_d|apply a_g|refine a_c ?_ a_P.out|refine a_c ?_ a_X.out|refine a_c ?_ a_Y.out)|exact HB.out)) hb)
     (try clear hb)
     (try clear hb2)
     (try clear hk)
     (try clear hi)
     (try clear ho0)
     obtain ⟨Ao52,co52,eo52⟩:=Kd.b_D g_I.out
     (first|subst eo52|(injection eo52 with f1_ f2_ f3_;have f4_:=f1_.symm;have f5_:=f3_.symm;clear f1_ f2_ f3_;subst f4_;subst f5_))
     refine hK.out _ _ ⟨(a_j a_x.out 0).trans rfl,(a_j a_I.out 0).trans rfl,(a_j a_C.out 0).trans rfl⟩ (fun hHeld => ?_)
     clear hK K
     refine b_x (a':=?_) ?_ ?_
     rotate_left
     ·show Act.put _ (some 66) _ = _
      simp only [Act.put,List.setIfInBounds_toArray,List.set_cons_zero,List.set_cons_succ,a_K,a_J]
      rfl
     refine one_ (i:=25) (N:=some 67) #[T_,T_,T_,T_,T_,T_,T_,T_,T_,T_,T_,T_,T_,T_,T_,T_,T_,T_,T_,T_,T_,T_,T_,T_,T_,T_,F_,F_] rfl rfl (c_a HT_.out (by kernel_rfl)) (by decide) (fun K hK => ?_)
     refine c_v Try.func18 (by kernel_rfl) rfl #[.agg #[.slice Ao27 t317.length co27],.agg #[.slice Ao52 t330.length co52]] (by rfl) rfl rfl (by (try simp only [List.map_toArray,List.map_cons,List.map_nil]);first|done|rfl|(simp only [List.length_drop,List.length_take];rfl)) ?_
     with_reducible refine (a_O.calls k1 _ _ t317 _ _ t330 t333 _ ?side1 ?side2 ?side3 ?side4 A47.out).mono ?_
     (case side1 => repeat (first|exact (Kd.a_r a_W.out).2.2|(with_reducible refine Kd.a_M ?_ _)|(with_reducible refine Kd.a_N ?_ _)|(with_reducible refine Kd.a_T ?_)))
     (case side2 => exact (Kd.a_r a_W.out).2.1)
     (case side3 => repeat (first|exact (Kd.a_r g_I.out).2.2|(with_reducible refine Kd.a_M ?_ _)|(with_reducible refine Kd.a_N ?_ _)|(with_reducible refine Kd.a_T ?_)))
     (case side4 => exact (Kd.a_r g_I.out).2.1)
     rintro e w53 ⟨rfl,hb⟩
     refine ⟨_,rfl,?_⟩
     replace a_W:=a_a.mk (Kd.a_y (rup_ a_W.out) hb)
     replace b_i:=a_a.mk (Kd.a_y (rup_ b_i.out) hb)
     replace g_I:=a_a.mk (Kd.a_y (rup_ g_I.out) hb)
     replace a_C:=a_a.mk (a_e (bup_ a_C.out) hb)
     replace a_x:=a_a.mk (a_e (bup_ a_x.out) hb)
     replace a_I:=a_a.mk (a_e (bup_ a_I.out) hb)
     replace HB:=a_a.mk (a_i (by repeat (first|(with_reducible first|exact HB.out|apply a_f|apply a_d|apply a_g|refine a_c ?_ a_P.out|refine a_c ?_ a_X.out|refine a_c ?_ a_Y.out)|exact HB.out)) hb)
     (try clear hb)
     (try clear hb2)
     (try clear hk)
     (try clear hi)
     refine hK.out _ _ ⟨(a_j a_x.out 0).trans rfl,(a_j a_I.out 0).trans rfl,(a_j a_C.out 0).trans rfl⟩ (fun hHeld => ?_)
     clear hK K
     refine b_x (a':=?_) ?_ ?_
     rotate_left
     ·show Act.put _ (some 67) _ = _
      simp only [Act.put,List.setIfInBounds_toArray,List.set_cons_zero,List.set_cons_succ,a_K,a_J]
      rfl
     refine a_U (i:=26) (N:=some 68) (v:=?_) (a':=?_) #[T_,T_,T_,T_,T_,T_,T_,T_,T_,T_,T_,T_,T_,T_,T_,T_,T_,T_,T_,T_,T_,T_,T_,T_,T_,T_,T_,F_] rfl rfl (a_H HT_.out (by kernel_rfl)) (fun _ _ _ h => h) (Or.inl ⟨by rfl,?_⟩) ?_ ?_
     rotate_left
     ·intro w'
      go_simp
      with_reducible rfl
     rotate_left
     ·simp only [Act.put,List.setIfInBounds_toArray,List.set_cons_zero,List.set_cons_succ,a_K,a_J]
      rfl
     refine a_U (i:=27) (N:=some 69) (v:=?_) (a':=?_) #[T_,T_,T_,T_,T_,T_,T_,T_,T_,T_,T_,T_,T_,T_,T_,T_,T_,T_,T_,T_,T_,T_,T_,T_,T_,T_,T_,T_] rfl rfl (a_H HT_.out (by kernel_rfl)) (fun _ _ _ h => h) (Or.inl ⟨by rfl,?_⟩) ?_ ?_
     rotate_left
     ·intro w'
      go_simp
      with_reducible rfl
     rotate_left
     ·simp only [Act.put,List.setIfInBounds_toArray,List.set_cons_zero,List.set_cons_succ,a_K,a_J]
      rfl
     refine e_3 (c_Y HT_.out (by kernel_rfl)) ?_
     try go_wp2
     go_meet
     case rel => exact ⟨_,(!t333),(by first|rfl|(simp;done)|(simp [*];done)),H',⟨by have:=HK1.out;first|omega|exact Nat.le_refl _⟩,⟨by (with_reducible repeat (first|apply Kd.a_5|apply Kd.a_1|apply Kd.a_0));exact Kd.b_v a_W.out (fun _ hk => hk.1)⟩,⟨by (with_reducible repeat (first|apply Kd.a_5|apply Kd.a_1|apply Kd.a_0));exact Kd.b_v b_i.out (fun _ hk => hk.1)⟩,⟨by (with_reducible repeat (first|refine a_u ?_ _|refine a_t ?_|refine a_w ?_ _));exact a_C.out⟩,⟨by (with_reducible repeat (first|refine a_u ?_ _|refine a_t ?_|refine a_w ?_ _));exact a_x.out⟩,⟨by (with_reducible repeat (first|refine a_u ?_ _|refine a_t ?_|refine a_w ?_ _));exact a_I.out⟩,⟨by repeat (first|(with_reducible first|exact HB.out|apply a_f|apply a_d|apply a_g|refine a_c ?_ a_P.out|refine a_c ?_ a_X.out|refine a_c ?_ a_Y.out)|exact HB.out)⟩⟩
    replace c39:=Bool.eq_false_iff.mpr c39
    subst c39
    have H1 : (if t327 = 180 then ((a_O.f k1 t317 t321).bind fun t334 => ((a_o.f k1 t317 t321).bind fun t335 => (if (t334 != t335) = true then (a_b.j1 k1 l0 l1 false l0 (l0.length : Int) x25_1 true t317) else ((a_v.f ((a_L l0 x25_1).f0)).bind fun t336 => ((a_O.f k1 t317 t336).bind fun t339 => (a_b.j1 k1 l0 l1 false l0 (l0.length : Int) x25_1 (!t339) t317)))))) else (a_b.j1 k1 l0 l1 false l0 (l0.length : Int) x25_1 true t317)) = some r:=by rw [if_neg (show ¬ (false = true) by decide)] at H;exact H
    clear H
    have H:=H1
    clear H1
    by_cases c54 : t327 = 180
    rotate_left
    ·rw [if_neg c54] at H
     have c54b0 : (t327 == 180) = false:=beq_eq_false_iff_ne.mpr c54
     have c54b1 : (t327 != 180) = true:=bne_iff_ne.mpr c54
     have H':=a_a.mk H
     clear H
     try go_wp2
     replace a_W:=a_a.mk (Kd.a_0 a_W.out)
     replace b_i:=a_a.mk (Kd.a_0 b_i.out)
     replace a_C:=a_a.mk (a_t a_C.out)
     replace a_x:=a_a.mk (a_t a_x.out)
     replace a_I:=a_a.mk (a_t a_I.out)
     replace HB:=a_a.mk (a_g HB.out)
     refine d_P (n:=28) (S:=fun w' => True) (ds:=[]) #[F_,F_,F_,F_,F_,F_,F_,F_,F_,F_,F_,F_,F_,F_,F_,F_,F_,F_,F_,F_,F_,F_,F_,F_,F_,F_,F_,F_] (by kernel_rfl) rfl rfl trivial (fun hHeld => ?_);refine c_o a_b.f_G a_b.e_f (fun HT_ HW_ => ?_)
     generalize w36.drew = w69 at a_W b_i a_C a_x a_I HB hHeld ⊢
     refine a_U (i:=0) (N:=some 42) (v:=?_) (a':=?_) #[T_,F_,F_,F_,F_,F_,F_,F_,F_,F_,F_,F_,F_,F_,F_,F_,F_,F_,F_,F_,F_,F_,F_,F_,F_,F_,F_,F_] rfl rfl (a_H HT_.out (by kernel_rfl)) (fun _ _ _ h => h) (Or.inl ⟨by rfl,?_⟩) ?_ ?_
     rotate_left
     ·intro w'
      go_simp
      with_reducible rfl
     rotate_left
     ·simp only [Act.put,List.setIfInBounds_toArray,List.set_cons_zero,List.set_cons_succ,a_K,a_J]
      rfl
     refine a_U (i:=1) (N:=some 43) (v:=?_) (a':=?_) #[T_,T_,F_,F_,F_,F_,F_,F_,F_,F_,F_,F_,F_,F_,F_,F_,F_,F_,F_,F_,F_,F_,F_,F_,F_,F_,F_,F_] rfl rfl (a_H HT_.out (by kernel_rfl)) (fun _ _ _ h => h) (Or.inl ⟨by rfl,?_⟩) ?_ ?_
     rotate_left
     ·intro w'
      go_simp
      with_reducible rfl
     rotate_left
     ·simp only [Act.put,List.setIfInBounds_toArray,List.set_cons_zero,List.set_cons_succ,a_K,a_J]
      rfl
     refine a_U (i:=2) (N:=some 44) (v:=?_) (a':=?_) #[T_,T_,T_,F_,F_,F_,F_,F_,F_,F_,F_,F_,F_,F_,F_,F_,F_,F_,F_,F_,F_,F_,F_,F_,F_,F_,F_,F_] rfl rfl (a_H HT_.out (by kernel_rfl)) (fun _ _ _ h => h) (Or.inl ⟨by rfl,?_⟩) ?_ ?_
     rotate_left
     ·intro w'
      go_simp
      with_reducible rfl
     rotate_left
     ·simp only [Act.put,List.setIfInBounds_toArray,List.set_cons_zero,List.set_cons_succ,a_K,a_J]
      rfl
     refine a_U (i:=3) (N:=some 45) (v:=?_) (a':=?_) #[T_,T_,T_,T_,F_,F_,F_,F_,F_,F_,F_,F_,F_,F_,F_,F_,F_,F_,F_,F_,F_,F_,F_,F_,F_,F_,F_,F_] rfl rfl (a_H HT_.out (by kernel_rfl)) (fun _ _ _ h => h) (Or.inl ⟨by rfl,?_⟩) ?_ ?_
     rotate_left
     ·intro w'
      go_simp
      with_reducible rfl
     rotate_left
     ·simp only [Act.put,List.setIfInBounds_toArray,List.set_cons_zero,List.set_cons_succ,a_K,a_J]
      rfl
     refine a_U (i:=4) (N:=some 46) (v:=?_) (a':=?_) #[T_,T_,T_,T_,T_,F_,F_,F_,F_,F_,F_,F_,F_,F_,F_,F_,F_,F_,F_,F_,F_,F_,F_,F_,F_,F_,F_,F_] rfl rfl (a_H HT_.out (by kernel_rfl)) (fun _ _ _ h => h) (Or.inl ⟨by rfl,?_⟩) ?_ ?_
     rotate_left
     ·intro w'
      go_simp
      with_reducible rfl
     rotate_left
     ·simp only [Act.put,List.setIfInBounds_toArray,List.set_cons_zero,List.set_cons_succ,a_K,a_J]
      rfl
     refine a_U (i:=5) (N:=some 47) (v:=?_) (a':=?_) #[T_,T_,T_,T_,T_,T_,F_,F_,F_,F_,F_,F_,F_,F_,F_,F_,F_,F_,F_,F_,F_,F_,F_,F_,F_,F_,F_,F_] rfl rfl (a_H HT_.out (by kernel_rfl)) (fun _ _ _ h => h) (Or.inl ⟨by rfl,?_⟩) ?_ ?_
     rotate_left
     ·intro w'
      go_simp
      with_reducible rfl
     rotate_left
     ·simp only [Act.put,List.setIfInBounds_toArray,List.set_cons_zero,List.set_cons_succ,a_K,a_J]
      rfl
     refine a_U (i:=6) (N:=some 48) (v:=?_) (a':=?_) #[T_,T_,T_,T_,T_,T_,T_,F_,F_,F_,F_,F_,F_,F_,F_,F_,F_,F_,F_,F_,F_,F_,F_,F_,F_,F_,F_,F_] rfl rfl (a_H HT_.out (by kernel_rfl)) (fun _ _ _ h => h) (Or.inl ⟨by rfl,?_⟩) ?_ ?_
     rotate_left
     ·intro w'
      go_simp
      with_reducible rfl
     rotate_left
     ·simp only [Act.put,List.setIfInBounds_toArray,List.set_cons_zero,List.set_cons_succ,a_K,a_J]
      rfl
     refine a_U (i:=7) (N:=some 49) (v:=?_) (a':=?_) #[T_,T_,T_,T_,T_,T_,T_,T_,F_,F_,F_,F_,F_,F_,F_,F_,F_,F_,F_,F_,F_,F_,F_,F_,F_,F_,F_,F_] rfl rfl (a_H HT_.out (by kernel_rfl)) (fun _ _ _ h => h) (Or.inl ⟨by rfl,?_⟩) ?_ ?_
     rotate_left
     ·intro w'
      go_simp
      with_reducible rfl
     rotate_left
     ·simp only [Act.put,List.setIfInBounds_toArray,List.set_cons_zero,List.set_cons_succ,a_K,a_J]
      rfl
     refine a_U (i:=8) (N:=some 50) (v:=?_) (a':=?_) #[T_,T_,T_,T_,T_,T_,T_,T_,T_,F_,F_,F_,F_,F_,F_,F_,F_,F_,F_,F_,F_,F_,F_,F_,F_,F_,F_,F_] rfl rfl (a_H HT_.out (by kernel_rfl)) (fun _ _ _ h => h) (Or.inl ⟨by rfl,?_⟩) ?_ ?_
     rotate_left
     ·intro w'
      go_simp
      with_reducible rfl
     rotate_left
     ·simp only [Act.put,List.setIfInBounds_toArray,List.set_cons_zero,List.set_cons_succ,a_K,a_J]
      rfl
     refine a_U (i:=9) (N:=some 51) (v:=?_) (a':=?_) #[T_,T_,T_,T_,T_,T_,T_,T_,T_,T_,F_,F_,F_,F_,F_,F_,F_,F_,F_,F_,F_,F_,F_,F_,F_,F_,F_,F_] rfl rfl (a_H HT_.out (by kernel_rfl)) (fun _ _ _ h => h) (Or.inl ⟨by rfl,?_⟩) ?_ ?_
     rotate_left
     ·intro w'
      go_simp
      with_reducible rfl
     rotate_left
     ·simp only [Act.put,List.setIfInBounds_toArray,List.set_cons_zero,List.set_cons_succ,a_K,a_J]
      rfl
     refine a_U (i:=10) (N:=some 52) (v:=?_) (a':=?_) #[T_,T_,T_,T_,T_,T_,T_,T_,T_,T_,T_,F_,F_,F_,F_,F_,F_,F_,F_,F_,F_,F_,F_,F_,F_,F_,F_,F_] rfl rfl (a_H HT_.out (by kernel_rfl)) (fun _ _ _ h => h) (Or.inl ⟨by rfl,?_⟩) ?_ ?_
     rotate_left
     ·intro w'
      go_simp
      with_reducible rfl
     rotate_left
     ·simp only [Act.put,List.setIfInBounds_toArray,List.set_cons_zero,List.set_cons_succ,a_K,a_J]
      rfl
     refine a_U (i:=11) (N:=some 53) (v:=?_) (a':=?_) #[T_,T_,T_,T_,T_,T_,T_,T_,T_,T_,T_,T_,F_,F_,F_,F_,F_,F_,F_,F_,F_,F_,F_,F_,F_,F_,F_,F_] rfl rfl (a_H HT_.out (by kernel_rfl)) (fun _ _ _ h => h) (Or.inl ⟨by rfl,?_⟩) ?_ ?_
     rotate_left
     ·intro w'
      go_simp
      with_reducible rfl
     rotate_left
     ·simp only [Act.put,List.setIfInBounds_toArray,List.set_cons_zero,List.set_cons_succ,a_K,a_J]
      rfl
     refine a_U (i:=12) (N:=some 54) (v:=?_) (a':=?_) #[T_,T_,T_,T_,T_,T_,T_,T_,T_,T_,T_,T_,T_,F_,F_,F_,F_,F_,F_,F_,F_,F_,F_,F_,F_,F_,F_,F_] rfl rfl (a_H HT_.out (by kernel_rfl)) (fun _ _ _ h => h) (Or.inl ⟨by rfl,?_⟩) ?_ ?_
     rotate_left
     ·intro w'
      go_simp
      with_reducible rfl
     rotate_left
     ·simp only [Act.put,List.setIfInBounds_toArray,List.set_cons_zero,List.set_cons_succ,a_K,a_J]
      rfl
     refine a_U (i:=13) (N:=some 55) (v:=undef) (a':=?_) #[T_,T_,T_,T_,T_,T_,T_,T_,T_,T_,T_,T_,T_,T_,F_,F_,F_,F_,F_,F_,F_,F_,F_,F_,F_,F_,F_,F_] rfl rfl (a_H HT_.out (by kernel_rfl)) (fun _ _ _ h => h) (Or.inr ⟨by rfl,rfl⟩) ?_ ?_
     rotate_left
     ·simp only [Act.put,List.setIfInBounds_toArray,List.set_cons_zero,List.set_cons_succ,a_K,a_J]
      rfl
     refine a_U (i:=14) (N:=some 56) (v:=undef) (a':=?_) #[T_,T_,T_,T_,T_,T_,T_,T_,T_,T_,T_,T_,T_,T_,T_,F_,F_,F_,F_,F_,F_,F_,F_,F_,F_,F_,F_,F_] rfl rfl (a_H HT_.out (by kernel_rfl)) (fun _ _ _ h => h) (Or.inr ⟨by rfl,rfl⟩) ?_ ?_
     rotate_left
     ·simp only [Act.put,List.setIfInBounds_toArray,List.set_cons_zero,List.set_cons_succ,a_K,a_J]
      rfl
     refine a_U (i:=15) (N:=some 57) (v:=undef) (a':=?_) #[T_,T_,T_,T_,T_,T_,T_,T_,T_,T_,T_,T_,T_,T_,T_,T_,F_,F_,F_,F_,F_,F_,F_,F_,F_,F_,F_,F_] rfl rfl (a_H HT_.out (by kernel_rfl)) (fun _ _ _ h => h) (Or.inr ⟨by rfl,rfl⟩) ?_ ?_
     rotate_left
     ·simp only [Act.put,List.setIfInBounds_toArray,List.set_cons_zero,List.set_cons_succ,a_K,a_J]
      rfl
     refine a_U (i:=16) (N:=some 58) (v:=undef) (a':=?_) #[T_,T_,T_,T_,T_,T_,T_,T_,T_,T_,T_,T_,T_,T_,T_,T_,T_,F_,F_,F_,F_,F_,F_,F_,F_,F_,F_,F_] rfl rfl (a_H HT_.out (by kernel_rfl)) (fun _ _ _ h => h) (Or.inr ⟨by rfl,rfl⟩) ?_ ?_
     rotate_left
     ·simp only [Act.put,List.setIfInBounds_toArray,List.set_cons_zero,List.set_cons_succ,a_K,a_J]
      rfl
     refine a_U (i:=17) (N:=some 59) (v:=undef) (a':=?_) #[T_,T_,T_,T_,T_,T_,T_,T_,T_,T_,T_,T_,T_,T_,T_,T_,T_,T_,F_,F_,F_,F_,F_,F_,F_,F_,F_,F_] rfl rfl (a_H HT_.out (by kernel_rfl)) (fun _ _ _ h => h) (Or.inr ⟨by rfl,rfl⟩) ?_ ?_
     rotate_left
     ·simp only [Act.put,List.setIfInBounds_toArray,List.set_cons_zero,List.set_cons_succ,a_K,a_J]
      rfl
     refine a_U (i:=18) (N:=some 60) (v:=undef) (a':=?_) #[T_,T_,T_,T_,T_,T_,T_,T_,T_,T_,T_,T_,T_,T_,T_,T_,T_,T_,T_,F_,F_,F_,F_,F_,F_,F_,F_,F_] rfl rfl (a_H HT_.out (by kernel_rfl)) (fun _ _ _ h => h) (Or.inr ⟨by rfl,rfl⟩) ?_ ?_
     rotate_left
     ·simp only [Act.put,List.setIfInBounds_toArray,List.set_cons_zero,List.set_cons_succ,a_K,a_J]
      rfl
     refine a_U (i:=19) (N:=some 61) (v:=undef) (a':=?_) #[T_,T_,T_,T_,T_,T_,T_,T_,T_,T_,T_,T_,T_,T_,T_,T_,T_,T_,T_,T_,F_,F_,F_,F_,F_,F_,F_,F_] rfl rfl (a_H HT_.out (by kernel_rfl)) (fun _ _ _ h => h) (Or.inr ⟨by rfl,rfl⟩) ?_ ?_
     rotate_left
     ·simp only [Act.put,List.setIfInBounds_toArray,List.set_cons_zero,List.set_cons_succ,a_K,a_J]
      rfl
     refine a_U (i:=20) (N:=some 62) (v:=?_) (a':=?_) #[T_,T_,T_,T_,T_,T_,T_,T_,T_,T_,T_,T_,T_,T_,T_,T_,T_,T_,T_,T_,T_,F_,F_,F_,F_,F_,F_,F_] rfl rfl (a_H HT_.out (by kernel_rfl)) (fun _ _ _ h => h) (Or.inl ⟨by rfl,?_⟩) ?_ ?_
     rotate_left
     ·intro w'
      go_simp
      with_reducible rfl
     rotate_left
     ·simp only [Act.put,List.setIfInBounds_toArray,List.set_cons_zero,List.set_cons_succ,a_K,a_J]
      rfl
     refine a_U (i:=21) (N:=some 63) (v:=?_) (a':=?_) #[T_,T_,T_,T_,T_,T_,T_,T_,T_,T_,T_,T_,T_,T_,T_,T_,T_,T_,T_,T_,T_,T_,F_,F_,F_,F_,F_,F_] rfl rfl (a_H HT_.out (by kernel_rfl)) (fun _ _ _ h => h) (Or.inl ⟨by rfl,?_⟩) ?_ ?_
     rotate_left
     ·intro w'
      go_simp
      with_reducible rfl
     rotate_left
     ·simp only [Act.put,List.setIfInBounds_toArray,List.set_cons_zero,List.set_cons_succ,a_K,a_J]
      rfl
     refine a_U (i:=22) (N:=some 64) (v:=undef) (a':=?_) #[T_,T_,T_,T_,T_,T_,T_,T_,T_,T_,T_,T_,T_,T_,T_,T_,T_,T_,T_,T_,T_,T_,T_,F_,F_,F_,F_,F_] rfl rfl (a_H HT_.out (by kernel_rfl)) (fun _ _ _ h => h) (Or.inr ⟨by rfl,rfl⟩) ?_ ?_
     rotate_left
     ·simp only [Act.put,List.setIfInBounds_toArray,List.set_cons_zero,List.set_cons_succ,a_K,a_J]
      rfl
     refine a_U (i:=23) (N:=some 65) (v:=undef) (a':=?_) #[T_,T_,T_,T_,T_,T_,T_,T_,T_,T_,T_,T_,T_,T_,T_,T_,T_,T_,T_,T_,T_,T_,T_,T_,F_,F_,F_,F_] rfl rfl (a_H HT_.out (by kernel_rfl)) (fun _ _ _ h => h) (Or.inr ⟨by rfl,rfl⟩) ?_ ?_
     rotate_left
     ·simp only [Act.put,List.setIfInBounds_toArray,List.set_cons_zero,List.set_cons_succ,a_K,a_J]
      rfl
     refine a_U (i:=24) (N:=some 66) (v:=undef) (a':=?_) #[T_,T_,T_,T_,T_,T_,T_,T_,T_,T_,T_,T_,T_,T_,T_,T_,T_,T_,T_,T_,T_,T_,T_,T_,T_,F_,F_,F_] rfl rfl (a_H HT_.out (by kernel_rfl)) (fun _ _ _ h => h) (Or.inr ⟨by rfl,rfl⟩) ?_ ?_
     rotate_left
     ·simp only [Act.put,List.setIfInBounds_toArray,List.set_cons_zero,List.set_cons_succ,a_K,a_J]
      rfl
     refine a_U (i:=25) (N:=some 67) (v:=undef) (a':=?_) #[T_,T_,T_,T_,T_,T_,T_,T_,T_,T_,T_,T_,T_,T_,T_,T_,T_,T_,T_,T_,T_,T_,T_,T_,T_,T_,F_,F_] rfl rfl (a_H HT_.out (by kernel_rfl)) (fun _ _ _ h => h) (Or.inr ⟨by rfl,rfl⟩) ?_ ?_
     rotate_left
     ·simp only [Act.put,List.setIfInBounds_toArray,List.set_cons_zero,List.set_cons_succ,a_K,a_J]
      rfl
     refine a_U (i:=26) (N:=some 68) (v:=undef) (a':=?_) #[T_,T_,T_,T_,T_,T_,T_,T_,T_,T_,T_,T_,T_,T_,T_,T_,T_,T_,T_,T_,T_,T_,T_,T_,T_,T_,T_,F_] rfl rfl (a_H HT_.out (by kernel_rfl)) (fun _ _ _ h => h) (Or.inr ⟨by rfl,rfl⟩) ?_ ?_
     rotate_left
     ·simp only [Act.put,List.setIfInBounds_toArray,List.set_cons_zero,List.set_cons_succ,a_K,a_J]
      rfl
     refine a_U (i:=27) (N:=some 69) (v:=?_) (a':=?_) #[T_,T_,T_,T_,T_,T_,T_,T_,T_,T_,T_,T_,T_,T_,T_,T_,T_,T_,T_,T_,T_,T_,T_,T_,T_,T_,T_,T_] rfl rfl (a_H HT_.out (by kernel_rfl)) (fun _ _ _ h => h) (Or.inl ⟨by rfl,?_⟩) ?_ ?_
     rotate_left
     ·intro w'
      go_simp
      with_reducible rfl
     rotate_left
     ·simp only [Act.put,List.setIfInBounds_toArray,List.set_cons_zero,List.set_cons_succ,a_K,a_J]
      rfl
     refine e_3 (c_Y HT_.out (by kernel_rfl)) ?_
     try go_wp2
     go_meet
     case rel => exact ⟨_,(true),(by first|rfl|(simp;done)|(simp [*];done)),H',⟨by have:=HK1.out;first|omega|exact Nat.le_refl _⟩,⟨by (with_reducible repeat (first|apply Kd.a_5|apply Kd.a_1|apply Kd.a_0));exact a_W.out⟩,⟨by (with_reducible repeat (first|apply Kd.a_5|apply Kd.a_1|apply Kd.a_0));exact b_i.out⟩,⟨by (with_reducible repeat (first|refine a_u ?_ _|refine a_t ?_|refine a_w ?_ _));exact a_C.out⟩,⟨by (with_reducible repeat (first|refine a_u ?_ _|refine a_t ?_|refine a_w ?_ _));exact a_x.out⟩,⟨by (with_reducible repeat (first|refine a_u ?_ _|refine a_t ?_|refine a_w ?_ _));exact a_I.out⟩,⟨by repeat (first|(with_reducible first|exact HB.out|apply a_f|apply a_d|apply a_g|refine a_c ?_ a_P.out|refine a_c ?_ a_X.out|refine a_c ?_ a_Y.out)|exact HB.out)⟩⟩
    rw [if_pos c54] at H
    have c54b0 : (t327 == 180) = true:=beq_iff_eq.mpr c54
    have c54b1 : (t327 != 180) = false:=bne_eq_false_iff_eq.mpr c54
    clear c54
    replace H:=Option.bind_eq_some_iff.mp H
    obtain ⟨t334,A550,H⟩:=H
    replace H : ((a_o.f k1 t317 t321).bind fun t335 => (if (t334 != t335) = true then (a_b.j1 k1 l0 l1 false l0 (l0.length : Int) x25_1 true t317) else ((a_v.f ((a_L l0 x25_1).f0)).bind fun t336 => ((a_O.f k1 t317 t336).bind fun t339 => (a_b.j1 k1 l0 l1 false l0 (l0.length : Int) x25_1 (!t339) t317))))) = some r:=H
    have A55:=a_a.mk A550
    clear A550
    replace H:=Option.bind_eq_some_iff.mp H
    obtain ⟨t335,A560,H⟩:=H
    replace H : (if (t334 != t335) = true then (a_b.j1 k1 l0 l1 false l0 (l0.length : Int) x25_1 true t317) else ((a_v.f ((a_L l0 x25_1).f0)).bind fun t336 => ((a_O.f k1 t317 t336).bind fun t339 => (a_b.j1 k1 l0 l1 false l0 (l0.length : Int) x25_1 (!t339) t317)))) = some r:=H
    have A56:=a_a.mk A560
    clear A560
    by_cases c57 : (t334 != t335) = true
    ·rw [if_pos c57] at H
     have c57b0 : (t334 != t335) = true:=c57
     (try (have c57b1 : decide (t334 = t335) = false:=by simpa using c57))
     (try (have c57b2 : (t334 == t335) = false:=by simpa using c57))
     (try (have c57b3 : ¬ (t334 = t335):=by simpa using c57))
     clear c57
     have H':=a_a.mk H
     clear H
     try go_wp2
     replace a_W:=a_a.mk (Kd.a_0 a_W.out)
     replace b_i:=a_a.mk (Kd.a_0 b_i.out)
     replace a_C:=a_a.mk (a_t a_C.out)
     replace a_x:=a_a.mk (a_t a_x.out)
     replace a_I:=a_a.mk (a_t a_I.out)
     replace HB:=a_a.mk (a_g HB.out)
     refine d_P (n:=28) (S:=fun w' => w'.cell? ⟨a_R,0,none⟩ = some (.slice Ao27 t317.length co27) ∧ w'.cell? ⟨a_7,0,none⟩ = some (.slice Ao29 t321.length co29)) (ds:=[]) #[F_,F_,F_,F_,F_,F_,F_,F_,F_,F_,F_,F_,F_,F_,F_,F_,F_,F_,F_,F_,F_,F_,F_,F_,F_,F_,F_,F_] (by kernel_rfl) rfl rfl ⟨(a_j a_x.out 0).trans rfl,(a_j a_I.out 0).trans rfl⟩ (fun hHeld => ?_);refine c_o a_b.f_G a_b.e_f (fun HT_ HW_ => ?_)
     generalize w36.drew = w58 at a_W b_i a_C a_x a_I HB hHeld ⊢
     refine a_U (i:=0) (N:=some 42) (v:=?_) (a':=?_) #[T_,F_,F_,F_,F_,F_,F_,F_,F_,F_,F_,F_,F_,F_,F_,F_,F_,F_,F_,F_,F_,F_,F_,F_,F_,F_,F_,F_] rfl rfl (a_H HT_.out (by kernel_rfl)) (fun _ _ _ h => h) (Or.inl ⟨by rfl,?_⟩) ?_ ?_
     rotate_left
     ·intro w'
      go_simp
      with_reducible rfl
     rotate_left
     ·simp only [Act.put,List.setIfInBounds_toArray,List.set_cons_zero,List.set_cons_succ,a_K,a_J]
      rfl
     refine a_U (i:=1) (N:=some 43) (v:=?_) (a':=?_) #[T_,T_,F_,F_,F_,F_,F_,F_,F_,F_,F_,F_,F_,F_,F_,F_,F_,F_,F_,F_,F_,F_,F_,F_,F_,F_,F_,F_] rfl rfl (a_H HT_.out (by kernel_rfl)) (fun _ _ _ h => h) (Or.inl ⟨by rfl,?_⟩) ?_ ?_
     rotate_left
     ·intro w'
      go_simp
      with_reducible rfl
     rotate_left
     ·simp only [Act.put,List.setIfInBounds_toArray,List.set_cons_zero,List.set_cons_succ,a_K,a_J]
      rfl
     refine a_U (i:=2) (N:=some 44) (v:=?_) (a':=?_) #[T_,T_,T_,F_,F_,F_,F_,F_,F_,F_,F_,F_,F_,F_,F_,F_,F_,F_,F_,F_,F_,F_,F_,F_,F_,F_,F_,F_] rfl rfl (a_H HT_.out (by kernel_rfl)) (fun _ _ _ h => h) (Or.inl ⟨by rfl,?_⟩) ?_ ?_
     rotate_left
     ·intro w'
      go_simp
      with_reducible rfl
     rotate_left
     ·simp only [Act.put,List.setIfInBounds_toArray,List.set_cons_zero,List.set_cons_succ,a_K,a_J]
      rfl
     refine a_U (i:=3) (N:=some 45) (v:=?_) (a':=?_) #[T_,T_,T_,T_,F_,F_,F_,F_,F_,F_,F_,F_,F_,F_,F_,F_,F_,F_,F_,F_,F_,F_,F_,F_,F_,F_,F_,F_] rfl rfl (a_H HT_.out (by kernel_rfl)) (fun _ _ _ h => h) (Or.inl ⟨by rfl,?_⟩) ?_ ?_
     rotate_left
     ·intro w'
      go_simp
      with_reducible rfl
     rotate_left
     ·simp only [Act.put,List.setIfInBounds_toArray,List.set_cons_zero,List.set_cons_succ,a_K,a_J]
      rfl
     refine a_U (i:=4) (N:=some 46) (v:=?_) (a':=?_) #[T_,T_,T_,T_,T_,F_,F_,F_,F_,F_,F_,F_,F_,F_,F_,F_,F_,F_,F_,F_,F_,F_,F_,F_,F_,F_,F_,F_] rfl rfl (a_H HT_.out (by kernel_rfl)) (fun _ _ _ h => h) (Or.inl ⟨by rfl,?_⟩) ?_ ?_
     rotate_left
     ·intro w'
      go_simp
      with_reducible rfl
     rotate_left
     ·simp only [Act.put,List.setIfInBounds_toArray,List.set_cons_zero,List.set_cons_succ,a_K,a_J]
      rfl
     refine a_U (i:=5) (N:=some 47) (v:=?_) (a':=?_) #[T_,T_,T_,T_,T_,T_,F_,F_,F_,F_,F_,F_,F_,F_,F_,F_,F_,F_,F_,F_,F_,F_,F_,F_,F_,F_,F_,F_] rfl rfl (a_H HT_.out (by kernel_rfl)) (fun _ _ _ h => h) (Or.inl ⟨by rfl,?_⟩) ?_ ?_
     rotate_left
     ·intro w'
      go_simp
      with_reducible rfl
     rotate_left
     ·simp only [Act.put,List.setIfInBounds_toArray,List.set_cons_zero,List.set_cons_succ,a_K,a_J]
      rfl
     refine a_U (i:=6) (N:=some 48) (v:=?_) (a':=?_) #[T_,T_,T_,T_,T_,T_,T_,F_,F_,F_,F_,F_,F_,F_,F_,F_,F_,F_,F_,F_,F_,F_,F_,F_,F_,F_,F_,F_] rfl rfl (a_H HT_.out (by kernel_rfl)) (fun _ _ _ h => h) (Or.inl ⟨by rfl,?_⟩) ?_ ?_
     rotate_left
     ·intro w'
      go_simp
      with_reducible rfl
     rotate_left
     ·simp only [Act.put,List.setIfInBounds_toArray,List.set_cons_zero,List.set_cons_succ,a_K,a_J]
      rfl
     refine a_U (i:=7) (N:=some 49) (v:=?_) (a':=?_) #[T_,T_,T_,T_,T_,T_,T_,T_,F_,F_,F_,F_,F_,F_,F_,F_,F_,F_,F_,F_,F_,F_,F_,F_,F_,F_,F_,F_] rfl rfl (a_H HT_.out (by kernel_rfl)) (fun _ _ _ h => h) (Or.inl ⟨by rfl,?_⟩) ?_ ?_
     rotate_left
     ·intro w'
      go_simp
      with_reducible rfl
     rotate_left
     ·simp only [Act.put,List.setIfInBounds_toArray,List.set_cons_zero,List.set_cons_succ,a_K,a_J]
      rfl
     refine a_U (i:=8) (N:=some 50) (v:=?_) (a':=?_) #[T_,T_,T_,T_,T_,T_,T_,T_,T_,F_,F_,F_,F_,F_,F_,F_,F_,F_,F_,F_,F_,F_,F_,F_,F_,F_,F_,F_] rfl rfl (a_H HT_.out (by kernel_rfl)) (fun _ _ _ h => h) (Or.inl ⟨by rfl,?_⟩) ?_ ?_
     rotate_left
     ·intro w'
      go_simp
      with_reducible rfl
     rotate_left
     ·simp only [Act.put,List.setIfInBounds_toArray,List.set_cons_zero,List.set_cons_succ,a_K,a_J]
      rfl
     refine a_U (i:=9) (N:=some 51) (v:=?_) (a':=?_) #[T_,T_,T_,T_,T_,T_,T_,T_,T_,T_,F_,F_,F_,F_,F_,F_,F_,F_,F_,F_,F_,F_,F_,F_,F_,F_,F_,F_] rfl rfl (a_H HT_.out (by kernel_rfl)) (fun _ _ _ h => h) (Or.inl ⟨by rfl,?_⟩) ?_ ?_
     rotate_left
     ·intro w'
      go_simp
      with_reducible rfl
     rotate_left
     ·simp only [Act.put,List.setIfInBounds_toArray,List.set_cons_zero,List.set_cons_succ,a_K,a_J]
      rfl
     refine a_U (i:=10) (N:=some 52) (v:=?_) (a':=?_) #[T_,T_,T_,T_,T_,T_,T_,T_,T_,T_,T_,F_,F_,F_,F_,F_,F_,F_,F_,F_,F_,F_,F_,F_,F_,F_,F_,F_] rfl rfl (a_H HT_.out (by kernel_rfl)) (fun _ _ _ h => h) (Or.inl ⟨by rfl,?_⟩) ?_ ?_
     rotate_left
     ·intro w'
      go_simp
      with_reducible rfl
     rotate_left
     ·simp only [Act.put,List.setIfInBounds_toArray,List.set_cons_zero,List.set_cons_succ,a_K,a_J]
      rfl
     refine a_U (i:=11) (N:=some 53) (v:=?_) (a':=?_) #[T_,T_,T_,T_,T_,T_,T_,T_,T_,T_,T_,T_,F_,F_,F_,F_,F_,F_,F_,F_,F_,F_,F_,F_,F_,F_,F_,F_] rfl rfl (a_H HT_.out (by kernel_rfl)) (fun _ _ _ h => h) (Or.inl ⟨by rfl,?_⟩) ?_ ?_
     rotate_left
     ·intro w'
      go_simp
      with_reducible rfl
     rotate_left
     ·simp only [Act.put,List.setIfInBounds_toArray,List.set_cons_zero,List.set_cons_succ,a_K,a_J]
      rfl
     refine a_U (i:=12) (N:=some 54) (v:=?_) (a':=?_) #[T_,T_,T_,T_,T_,T_,T_,T_,T_,T_,T_,T_,T_,F_,F_,F_,F_,F_,F_,F_,F_,F_,F_,F_,F_,F_,F_,F_] rfl rfl (a_H HT_.out (by kernel_rfl)) (fun _ _ _ h => h) (Or.inl ⟨by rfl,?_⟩) ?_ ?_
     rotate_left
     ·intro w'
      go_simp
      with_reducible rfl
     rotate_left
     ·simp only [Act.put,List.setIfInBounds_toArray,List.set_cons_zero,List.set_cons_succ,a_K,a_J]
      rfl
     refine c_f (i:=13) (N:=some 55) (v:=?_) (a':=?_) #[T_,T_,T_,T_,T_,T_,T_,T_,T_,T_,T_,T_,T_,T_,F_,F_,F_,F_,F_,F_,F_,F_,F_,F_,F_,F_,F_,F_] rfl rfl (b_B HT_.out HW_.out (by kernel_rfl)) (fun _ _ _ h => h) (Or.inl ⟨by rfl,?_⟩) hHeld ?_ ?_
     rotate_left
     ·rintro w' ⟨s0,s1⟩
      go_simp
      with_reducible rfl
     rotate_left
     ·simp only [Act.put,List.setIfInBounds_toArray,List.set_cons_zero,List.set_cons_succ,a_K,a_J]
      rfl
     refine c_f (i:=14) (N:=some 56) (v:=?_) (a':=?_) #[T_,T_,T_,T_,T_,T_,T_,T_,T_,T_,T_,T_,T_,T_,T_,F_,F_,F_,F_,F_,F_,F_,F_,F_,F_,F_,F_,F_] rfl rfl (b_B HT_.out HW_.out (by kernel_rfl)) (fun _ _ _ h => h) (Or.inl ⟨by rfl,?_⟩) hHeld ?_ ?_
     rotate_left
     ·rintro w' ⟨s0,s1⟩
      go_simp
      with_reducible rfl
     rotate_left
     ·simp only [Act.put,List.setIfInBounds_toArray,List.set_cons_zero,List.set_cons_succ,a_K,a_J]
      rfl
     refine c_f (i:=16) (N:=some 58) (v:=?_) (a':=?_) #[T_,T_,T_,T_,T_,T_,T_,T_,T_,T_,T_,T_,T_,T_,T_,F_,T_,F_,F_,F_,F_,F_,F_,F_,F_,F_,F_,F_] rfl rfl (b_B HT_.out HW_.out (by kernel_rfl)) (fun _ _ _ h => h) (Or.inl ⟨by rfl,?_⟩) hHeld ?_ ?_
     rotate_left
     ·rintro w' ⟨s0,s1⟩
      go_simp
      with_reducible rfl
     rotate_left
     ·simp only [Act.put,List.setIfInBounds_toArray,List.set_cons_zero,List.set_cons_succ,a_K,a_J]
      rfl
     refine c_f (i:=17) (N:=some 59) (v:=?_) (a':=?_) #[T_,T_,T_,T_,T_,T_,T_,T_,T_,T_,T_,T_,T_,T_,T_,F_,T_,T_,F_,F_,F_,F_,F_,F_,F_,F_,F_,F_] rfl rfl (b_B HT_.out HW_.out (by kernel_rfl)) (fun _ _ _ h => h) (Or.inl ⟨by rfl,?_⟩) hHeld ?_ ?_
     rotate_left
     ·rintro w' ⟨s0,s1⟩
      go_simp
      with_reducible rfl
     rotate_left
     ·simp only [Act.put,List.setIfInBounds_toArray,List.set_cons_zero,List.set_cons_succ,a_K,a_J]
      rfl
     refine one_ (i:=15) (N:=some 57) #[T_,T_,T_,T_,T_,T_,T_,T_,T_,T_,T_,T_,T_,T_,T_,T_,T_,T_,F_,F_,F_,F_,F_,F_,F_,F_,F_,F_] rfl rfl (c_a HT_.out (by kernel_rfl)) (by decide) (fun K hK => ?_)
     refine c_v Try.func18 (by kernel_rfl) rfl #[.agg #[.slice Ao27 t317.length co27],.agg #[.slice Ao29 t321.length co29]] (by rfl) rfl rfl (by (try simp only [List.map_toArray,List.map_cons,List.map_nil]);first|done|rfl|(simp only [List.length_drop,List.length_take];rfl)) ?_
     with_reducible refine (a_O.calls k1 _ _ t317 _ _ t321 t334 _ ?side1 ?side2 ?side3 ?side4 A55.out).mono ?_
     (case side1 => repeat (first|exact (Kd.a_r a_W.out).2.2|(with_reducible refine Kd.a_M ?_ _)|(with_reducible refine Kd.a_N ?_ _)|(with_reducible refine Kd.a_T ?_)))
     (case side2 => exact (Kd.a_r a_W.out).2.1)
     (case side3 => repeat (first|exact (Kd.a_r b_i.out).2.2|(with_reducible refine Kd.a_M ?_ _)|(with_reducible refine Kd.a_N ?_ _)|(with_reducible refine Kd.a_T ?_)))
     (case side4 => exact (Kd.a_r b_i.out).2.1)
     rintro e w59 ⟨rfl,hb⟩
     refine ⟨_,rfl,?_⟩
     replace a_W:=a_a.mk (Kd.a_y (rup_ a_W.out) hb)
     replace b_i:=a_a.mk (Kd.a_y (rup_ b_i.out) hb)
     replace a_C:=a_a.mk (a_e (bup_ a_C.out) hb)
     replace a_x:=a_a.mk (a_e (bup_ a_x.out) hb)
     replace a_I:=a_a.mk (a_e (bup_ a_I.out) hb)
     replace HB:=a_a.mk (a_i (by repeat (first|(with_reducible first|exact HB.out|apply a_f|apply a_d|apply a_g|refine a_c ?_ a_P.out|refine a_c ?_ a_X.out|refine a_c ?_ a_Y.out)|exact HB.out)) hb)
     (try clear hb)
     (try clear hb2)
     (try clear hk)
     (try clear hi)
     refine hK.out _ _ ⟨(a_j a_x.out 0).trans rfl,(a_j a_I.out 0).trans rfl⟩ (fun hHeld => ?_)
     clear hK K
     refine b_x (a':=?_) ?_ ?_
     rotate_left
     ·show Act.put _ (some 57) _ = _
      simp only [Act.put,List.setIfInBounds_toArray,List.set_cons_zero,List.set_cons_succ,a_K,a_J]
      rfl
     refine one_ (i:=18) (N:=some 60) #[T_,T_,T_,T_,T_,T_,T_,T_,T_,T_,T_,T_,T_,T_,T_,T_,T_,T_,T_,F_,F_,F_,F_,F_,F_,F_,F_,F_] rfl rfl (c_a HT_.out (by kernel_rfl)) (by decide) (fun K hK => ?_)
     refine c_v Try.func14 (by kernel_rfl) rfl #[.agg #[.slice Ao27 t317.length co27],.agg #[.slice Ao29 t321.length co29]] (by rfl) rfl rfl (by (try simp only [List.map_toArray,List.map_cons,List.map_nil]);first|done|rfl|(simp only [List.length_drop,List.length_take];rfl)) ?_
     with_reducible refine (a_o.calls k1 _ _ t317 _ _ t321 t335 _ ?side1 ?side2 ?side3 ?side4 A56.out).mono ?_
     (case side1 => repeat (first|exact (Kd.a_r a_W.out).2.2|(with_reducible refine Kd.a_M ?_ _)|(with_reducible refine Kd.a_N ?_ _)|(with_reducible refine Kd.a_T ?_)))
     (case side2 => exact (Kd.a_r a_W.out).2.1)
     (case side3 => repeat (first|exact (Kd.a_r b_i.out).2.2|(with_reducible refine Kd.a_M ?_ _)|(with_reducible refine Kd.a_N ?_ _)|(with_reducible refine Kd.a_T ?_)))
     (case side4 => exact (Kd.a_r b_i.out).2.1)
     rintro e w60 ⟨rfl,hb⟩
     refine ⟨_,rfl,?_⟩
     replace a_W:=a_a.mk (Kd.a_y (rup_ a_W.out) hb)
     replace b_i:=a_a.mk (Kd.a_y (rup_ b_i.out) hb)
     replace a_C:=a_a.mk (a_e (bup_ a_C.out) hb)
     replace a_x:=a_a.mk (a_e (bup_ a_x.out) hb)
     replace a_I:=a_a.mk (a_e (bup_ a_I.out) hb)
     replace HB:=a_a.mk (a_i (by repeat (first|(with_reducible first|exact HB.out|apply a_f|apply a_d|apply a_g|refine a_c ?_ a_P.out|refine a_c ?_ a_X.out|refine a_c ?_ a_Y.out)|exact HB.out)) hb)
     (try clear hb)
     (try clear hb2)
     (try clear hk)
     (try clear hi)
     refine hK.out _ _ ⟨(a_j a_x.out 0).trans rfl,(a_j a_I.out 0).trans rfl⟩ (fun hHeld => ?_)
     clear hK K
     refine b_x (a':=?_) ?_ ?_
     rotate_left
     ·show Act.put _ (some 60) _ = _
      simp only [Act.put,List.setIfInBounds_toArray,List.set_cons_zero,List.set_cons_succ,a_K,a_J]
      rfl
     refine a_U (i:=19) (N:=some 61) (v:=?_) (a':=?_) #[T_,T_,T_,T_,T_,T_,T_,T_,T_,T_,T_,T_,T_,T_,T_,T_,T_,T_,T_,T_,F_,F_,F_,F_,F_,F_,F_,F_] rfl rfl (a_H HT_.out (by kernel_rfl)) (fun _ _ _ h => h) (Or.inl ⟨by rfl,?_⟩) ?_ ?_
     rotate_left
     ·intro w'
      go_simp
      with_reducible rfl
     rotate_left
     ·simp only [Act.put,List.setIfInBounds_toArray,List.set_cons_zero,List.set_cons_succ,a_K,a_J]
      rfl
     refine a_U (i:=20) (N:=some 62) (v:=?_) (a':=?_) #[T_,T_,T_,T_,T_,T_,T_,T_,T_,T_,T_,T_,T_,T_,T_,T_,T_,T_,T_,T_,T_,F_,F_,F_,F_,F_,F_,F_] rfl rfl (a_H HT_.out (by kernel_rfl)) (fun _ _ _ h => h) (Or.inl ⟨by rfl,?_⟩) ?_ ?_
     rotate_left
     ·intro w'
      go_simp
      with_reducible rfl
     rotate_left
     ·simp only [Act.put,List.setIfInBounds_toArray,List.set_cons_zero,List.set_cons_succ,a_K,a_J]
      rfl
     refine a_U (i:=21) (N:=some 63) (v:=?_) (a':=?_) #[T_,T_,T_,T_,T_,T_,T_,T_,T_,T_,T_,T_,T_,T_,T_,T_,T_,T_,T_,T_,T_,T_,F_,F_,F_,F_,F_,F_] rfl rfl (a_H HT_.out (by kernel_rfl)) (fun _ _ _ h => h) (Or.inl ⟨by rfl,?_⟩) ?_ ?_
     rotate_left
     ·intro w'
      go_simp
      with_reducible rfl
     rotate_left
     ·simp only [Act.put,List.setIfInBounds_toArray,List.set_cons_zero,List.set_cons_succ,a_K,a_J]
      rfl
     refine a_U (i:=22) (N:=some 64) (v:=undef) (a':=?_) #[T_,T_,T_,T_,T_,T_,T_,T_,T_,T_,T_,T_,T_,T_,T_,T_,T_,T_,T_,T_,T_,T_,T_,F_,F_,F_,F_,F_] rfl rfl (a_H HT_.out (by kernel_rfl)) (fun _ _ _ h => h) (Or.inr ⟨by rfl,rfl⟩) ?_ ?_
     rotate_left
     ·simp only [Act.put,List.setIfInBounds_toArray,List.set_cons_zero,List.set_cons_succ,a_K,a_J]
      rfl
     refine a_U (i:=23) (N:=some 65) (v:=undef) (a':=?_) #[T_,T_,T_,T_,T_,T_,T_,T_,T_,T_,T_,T_,T_,T_,T_,T_,T_,T_,T_,T_,T_,T_,T_,T_,F_,F_,F_,F_] rfl rfl (a_H HT_.out (by kernel_rfl)) (fun _ _ _ h => h) (Or.inr ⟨by rfl,rfl⟩) ?_ ?_
     rotate_left
     ·simp only [Act.put,List.setIfInBounds_toArray,List.set_cons_zero,List.set_cons_succ,a_K,a_J]
      rfl
     refine a_U (i:=24) (N:=some 66) (v:=undef) (a':=?_) #[T_,T_,T_,T_,T_,T_,T_,T_,T_,T_,T_,T_,T_,T_,T_,T_,T_,T_,T_,T_,T_,T_,T_,T_,T_,F_,F_,F_] rfl rfl (a_H HT_.out (by kernel_rfl)) (fun _ _ _ h => h) (Or.inr ⟨by rfl,rfl⟩) ?_ ?_
     rotate_left
     ·simp only [Act.put,List.setIfInBounds_toArray,List.set_cons_zero,List.set_cons_succ,a_K,a_J]
      rfl
     refine a_U (i:=25) (N:=some 67) (v:=undef) (a':=?_) #[T_,T_,T_,T_,T_,T_,T_,T_,T_,T_,T_,T_,T_,T_,T_,T_,T_,T_,T_,T_,T_,T_,T_,T_,T_,T_,F_,F_] rfl rfl (a_H HT_.out (by kernel_rfl)) (fun _ _ _ h => h) (Or.inr ⟨by rfl,rfl⟩) ?_ ?_
     rotate_left
     ·simp only [Act.put,List.setIfInBounds_toArray,List.set_cons_zero,List.set_cons_succ,a_K,a_J]
      rfl
     refine a_U (i:=26) (N:=some 68) (v:=undef) (a':=?_) #[T_,T_,T_,T_,T_,T_,T_,T_,T_,T_,T_,T_,T_,T_,T_,T_,T_,T_,T_,T_,T_,T_,T_,T_,T_,T_,T_,F_] rfl rfl (a_H HT_.out (by kernel_rfl)) (fun _ _ _ h => h) (Or.inr ⟨by rfl,rfl⟩) ?_ ?_
     rotate_left
     ·simp only [Act.put,List.setIfInBounds_toArray,List.set_cons_zero,List.set_cons_succ,a_K,a_J]
      rfl
     refine a_U (i:=27) (N:=some 69) (v:=?_) (a':=?_) #[T_,T_,T_,T_,T_,T_,T_,T_,T_,T_,T_,T_,T_,T_,T_,T_,T_,T_,T_,T_,T_,T_,T_,T_,T_,T_,T_,T_] rfl rfl (a_H HT_.out (by kernel_rfl)) (fun _ _ _ h => h) (Or.inl ⟨by rfl,?_⟩) ?_ ?_
     rotate_left
     ·intro w'
      go_simp
      with_reducible rfl
     rotate_left
     ·simp only [Act.put,List.setIfInBounds_toArray,List.set_cons_zero,List.set_cons_succ,a_K,a_J]
      rfl
     refine e_3 (c_Y HT_.out (by kernel_rfl)) ?_
     try go_wp2
     go_meet
     case rel => exact ⟨_,(true),(by first|rfl|(simp;done)|(simp [*];done)),H',⟨by have:=HK1.out;first|omega|exact Nat.le_refl _⟩,⟨by (with_reducible repeat (first|apply Kd.a_5|apply Kd.a_1|apply Kd.a_0));exact a_W.out⟩,⟨by (with_reducible repeat (first|apply Kd.a_5|apply Kd.a_1|apply Kd.a_0));exact b_i.out⟩,⟨by (with_reducible repeat (first|refine a_u ?_ _|refine a_t ?_|refine a_w ?_ _));exact a_C.out⟩,⟨by (with_reducible repeat (first|refine a_u ?_ _|refine a_t ?_|refine a_w ?_ _));exact a_x.out⟩,⟨by (with_reducible repeat (first|refine a_u ?_ _|refine a_t ?_|refine a_w ?_ _));exact a_I.out⟩,⟨by repeat (first|(with_reducible first|exact HB.out|apply a_f|apply a_d|apply a_g|refine a_c ?_ a_P.out|refine a_c ?_ a_X.out|refine a_c ?_ a_Y.out)|exact HB.out)⟩⟩
    rw [if_neg c57] at H
    have c57b0 : (t334 != t335) = false:=by simpa using c57
    (try (have c57b1 : decide (t334 = t335) = true:=by simpa using c57))
    (try (have c57b2 : (t334 == t335) = true:=by simpa using c57))
    clear c57
    replace H:=Option.bind_eq_some_iff.mp H
    obtain ⟨t336,A610,H⟩:=H
    replace H : ((a_O.f k1 t317 t336).bind fun t339 => (a_b.j1 k1 l0 l1 false l0 (l0.length : Int) x25_1 (!t339) t317)) = some r:=H
    have A61:=a_a.mk A610
    clear A610
    replace H:=Option.bind_eq_some_iff.mp H
    obtain ⟨t339,A620,H⟩:=H
    replace H : (a_b.j1 k1 l0 l1 false l0 (l0.length : Int) x25_1 (!t339) t317) = some r:=H
    have A62:=a_a.mk A620
    clear A620
    have H':=a_a.mk H
    clear H
    try go_wp2
    replace a_W:=a_a.mk (Kd.a_0 a_W.out)
    replace b_i:=a_a.mk (Kd.a_0 b_i.out)
    replace a_C:=a_a.mk (a_t a_C.out)
    replace a_x:=a_a.mk (a_t a_x.out)
    replace a_I:=a_a.mk (a_t a_I.out)
    replace HB:=a_a.mk (a_g HB.out)
    refine d_P (n:=28) (S:=fun w' => w'.cell? ⟨a_R,0,none⟩ = some (.slice Ao27 t317.length co27) ∧ w'.cell? ⟨a_7,0,none⟩ = some (.slice Ao29 t321.length co29) ∧ w'.cell? ⟨a_V,0,none⟩ = some (.slice A315_0 ((a_L l0 x25_1).f0).length c315_0)) (ds:=[]) #[F_,F_,F_,F_,F_,F_,F_,F_,F_,F_,F_,F_,F_,F_,F_,F_,F_,F_,F_,F_,F_,F_,F_,F_,F_,F_,F_,F_] (by kernel_rfl) rfl rfl ⟨(a_j a_x.out 0).trans rfl,(a_j a_I.out 0).trans rfl,(a_j a_C.out 0).trans rfl⟩ (fun hHeld => ?_);refine c_o a_b.f_G a_b.e_f (fun HT_ HW_ => ?_)
    generalize w36.drew = w63 at a_W b_i a_C a_x a_I HB hHeld ⊢
    refine a_U (i:=0) (N:=some 42) (v:=?_) (a':=?_) #[T_,F_,F_,F_,F_,F_,F_,F_,F_,F_,F_,F_,F_,F_,F_,F_,F_,F_,F_,F_,F_,F_,F_,F_,F_,F_,F_,F_] rfl rfl (a_H HT_.out (by kernel_rfl)) (fun _ _ _ h => h) (Or.inl ⟨by rfl,?_⟩) ?_ ?_
    rotate_left
    ·intro w'
     go_simp
     with_reducible rfl
    rotate_left
    ·simp only [Act.put,List.setIfInBounds_toArray,List.set_cons_zero,List.set_cons_succ,a_K,a_J]
     rfl
    refine a_U (i:=1) (N:=some 43) (v:=?_) (a':=?_) #[T_,T_,F_,F_,F_,F_,F_,F_,F_,F_,F_,F_,F_,F_,F_,F_,F_,F_,F_,F_,F_,F_,F_,F_,F_,F_,F_,F_] rfl rfl (a_H HT_.out (by kernel_rfl)) (fun _ _ _ h => h) (Or.inl ⟨by rfl,?_⟩) ?_ ?_
    rotate_left
    ·intro w'
     go_simp
     with_reducible rfl
    rotate_left
    ·simp only [Act.put,List.setIfInBounds_toArray,List.set_cons_zero,List.set_cons_succ,a_K,a_J]
     rfl
    refine a_U (i:=2) (N:=some 44) (v:=?_) (a':=?_) #[T_,T_,T_,F_,F_,F_,F_,F_,F_,F_,F_,F_,F_,F_,F_,F_,F_,F_,F_,F_,F_,F_,F_,F_,F_,F_,F_,F_] rfl rfl (a_H HT_.out (by kernel_rfl)) (fun _ _ _ h => h) (Or.inl ⟨by rfl,?_⟩) ?_ ?_
    rotate_left
    ·intro w'
     go_simp
     with_reducible rfl
    rotate_left
    ·simp only [Act.put,List.setIfInBounds_toArray,List.set_cons_zero,List.set_cons_succ,a_K,a_J]
     rfl
    refine a_U (i:=3) (N:=some 45) (v:=?_) (a':=?_) #[T_,T_,T_,T_,F_,F_,F_,F_,F_,F_,F_,F_,F_,F_,F_,F_,F_,F_,F_,F_,F_,F_,F_,F_,F_,F_,F_,F_] rfl rfl (a_H HT_.out (by kernel_rfl)) (fun _ _ _ h => h) (Or.inl ⟨by rfl,?_⟩) ?_ ?_
    rotate_left
    ·intro w'
     go_simp
     with_reducible rfl
    rotate_left
    ·simp only [Act.put,List.setIfInBounds_toArray,List.set_cons_zero,List.set_cons_succ,a_K,a_J]
     rfl
    refine a_U (i:=4) (N:=some 46) (v:=?_) (a':=?_) #[T_,T_,T_,T_,T_,F_,F_,F_,F_,F_,F_,F_,F_,F_,F_,F_,F_,F_,F_,F_,F_,F_,F_,F_,F_,F_,F_,F_] rfl rfl (a_H HT_.out (by kernel_rfl)) (fun _ _ _ h => h) (Or.inl ⟨by rfl,?_⟩) ?_ ?_
    rotate_left
    ·intro w'
     go_simp
     with_reducible rfl
    rotate_left
    ·simp only [Act.put,List.setIfInBounds_toArray,List.set_cons_zero,List.set_cons_succ,a_K,a_J]
     rfl
    refine a_U (i:=5) (N:=some 47) (v:=?_) (a':=?_) #[T_,T_,T_,T_,T_,T_,F_,F_,F_,F_,F_,F_,F_,F_,F_,F_,F_,F_,F_,F_,F_,F_,F_,F_,F_,F_,F_,F_] rfl rfl (a_H HT_.out (by kernel_rfl)) (fun _ _ _ h => h) (Or.inl ⟨by rfl,?_⟩) ?_ ?_
    rotate_left
    ·intro w'
     go_simp
     with_reducible rfl
    rotate_left
    ·simp only [Act.put,List.setIfInBounds_toArray,List.set_cons_zero,List.set_cons_succ,a_K,a_J]
     rfl
    refine a_U (i:=6) (N:=some 48) (v:=?_) (a':=?_) #[T_,T_,T_,T_,T_,T_,T_,F_,F_,F_,F_,F_,F_,F_,F_,F_,F_,F_,F_,F_,F_,F_,F_,F_,F_,F_,F_,F_] rfl rfl (a_H HT_.out (by kernel_rfl)) (fun _ _ _ h => h) (Or.inl ⟨by rfl,?_⟩) ?_ ?_
    rotate_left
    ·intro w'
     go_simp
     with_reducible rfl
    rotate_left
    ·simp only [Act.put,List.setIfInBounds_toArray,List.set_cons_zero,List.set_cons_succ,a_K,a_J]
     rfl
    refine a_U (i:=7) (N:=some 49) (v:=?_) (a':=?_) #[T_,T_,T_,T_,T_,T_,T_,T_,F_,F_,F_,F_,F_,F_,F_,F_,F_,F_,F_,F_,F_,F_,F_,F_,F_,F_,F_,F_] rfl rfl (a_H HT_.out (by kernel_rfl)) (fun _ _ _ h => h) (Or.inl ⟨by rfl,?_⟩) ?_ ?_
    rotate_left
    ·intro w'
     go_simp
     with_reducible rfl
    rotate_left
    ·simp only [Act.put,List.setIfInBounds_toArray,List.set_cons_zero,List.set_cons_succ,a_K,a_J]
     rfl
    refine a_U (i:=8) (N:=some 50) (v:=?_) (a':=?_) #[T_,T_,T_,T_,T_,T_,T_,T_,T_,F_,F_,F_,F_,F_,F_,F_,F_,F_,F_,F_,F_,F_,F_,F_,F_,F_,F_,F_] rfl rfl (a_H HT_.out (by kernel_rfl)) (fun _ _ _ h => h) (Or.inl ⟨by rfl,?_⟩) ?_ ?_
    rotate_left
    ·intro w'
     go_simp
     with_reducible rfl
    rotate_left
    ·simp only [Act.put,List.setIfInBounds_toArray,List.set_cons_zero,List.set_cons_succ,a_K,a_J]
     rfl
    refine a_U (i:=9) (N:=some 51) (v:=?_) (a':=?_) #[T_,T_,T_,T_,T_,T_,T_,T_,T_,T_,F_,F_,F_,F_,F_,F_,F_,F_,F_,F_,F_,F_,F_,F_,F_,F_,F_,F_] rfl rfl (a_H HT_.out (by kernel_rfl)) (fun _ _ _ h => h) (Or.inl ⟨by rfl,?_⟩) ?_ ?_
    rotate_left
    ·intro w'
     go_simp
     with_reducible rfl
    rotate_left
    ·simp only [Act.put,List.setIfInBounds_toArray,List.set_cons_zero,List.set_cons_succ,a_K,a_J]
     rfl
    refine a_U (i:=10) (N:=some 52) (v:=?_) (a':=?_) #[T_,T_,T_,T_,T_,T_,T_,T_,T_,T_,T_,F_,F_,F_,F_,F_,F_,F_,F_,F_,F_,F_,F_,F_,F_,F_,F_,F_] rfl rfl (a_H HT_.out (by kernel_rfl)) (fun _ _ _ h => h) (Or.inl ⟨by rfl,?_⟩) ?_ ?_
    rotate_left
    ·intro w'
     go_simp
     with_reducible rfl
    rotate_left
    ·simp only [Act.put,List.setIfInBounds_toArray,List.set_cons_zero,List.set_cons_succ,a_K,a_J]
     rfl
    refine a_U (i:=11) (N:=some 53) (v:=?_) (a':=?_) #[T_,T_,T_,T_,T_,T_,T_,T_,T_,T_,T_,T_,F_,F_,F_,F_,F_,F_,F_,F_,F_,F_,F_,F_,F_,F_,F_,F_] rfl rfl (a_H HT_.out (by kernel_rfl)) (fun _ _ _ h => h) (Or.inl ⟨by rfl,?_⟩) ?_ ?_
    rotate_left
    ·intro w'
     go_simp
     with_reducible rfl
    rotate_left
    ·simp only [Act.put,List.setIfInBounds_toArray,List.set_cons_zero,List.set_cons_succ,a_K,a_J]
     rfl
    refine a_U (i:=12) (N:=some 54) (v:=?_) (a':=?_) #[T_,T_,T_,T_,T_,T_,T_,T_,T_,T_,T_,T_,T_,F_,F_,F_,F_,F_,F_,F_,F_,F_,F_,F_,F_,F_,F_,F_] rfl rfl (a_H HT_.out (by kernel_rfl)) (fun _ _ _ h => h) (Or.inl ⟨by rfl,?_⟩) ?_ ?_
    rotate_left
    ·intro w'
     go_simp
     with_reducible rfl
    rotate_left
    ·simp only [Act.put,List.setIfInBounds_toArray,List.set_cons_zero,List.set_cons_succ,a_K,a_J]
     rfl
    refine c_f (i:=13) (N:=some 55) (v:=?_) (a':=?_) #[T_,T_,T_,T_,T_,T_,T_,T_,T_,T_,T_,T_,T_,T_,F_,F_,F_,F_,F_,F_,F_,F_,F_,F_,F_,F_,F_,F_] rfl rfl (b_B HT_.out HW_.out (by kernel_rfl)) (fun _ _ _ h => h) (Or.inl ⟨by rfl,?_⟩) hHeld ?_ ?_
    rotate_left
    ·rintro w' ⟨s0,s1,s2⟩
     go_simp
     with_reducible rfl
    rotate_left
    ·simp only [Act.put,List.setIfInBounds_toArray,List.set_cons_zero,List.set_cons_succ,a_K,a_J]
     rfl
    refine c_f (i:=14) (N:=some 56) (v:=?_) (a':=?_) #[T_,T_,T_,T_,T_,T_,T_,T_,T_,T_,T_,T_,T_,T_,T_,F_,F_,F_,F_,F_,F_,F_,F_,F_,F_,F_,F_,F_] rfl rfl (b_B HT_.out HW_.out (by kernel_rfl)) (fun _ _ _ h => h) (Or.inl ⟨by rfl,?_⟩) hHeld ?_ ?_
    rotate_left
    ·rintro w' ⟨s0,s1,s2⟩
     go_simp
     with_reducible rfl
    rotate_left
    ·simp only [Act.put,List.setIfInBounds_toArray,List.set_cons_zero,List.set_cons_succ,a_K,a_J]
     rfl
    refine c_f (i:=16) (N:=some 58) (v:=?_) (a':=?_) #[T_,T_,T_,T_,T_,T_,T_,T_,T_,T_,T_,T_,T_,T_,T_,F_,T_,F_,F_,F_,F_,F_,F_,F_,F_,F_,F_,F_] rfl rfl (b_B HT_.out HW_.out (by kernel_rfl)) (fun _ _ _ h => h) (Or.inl ⟨by rfl,?_⟩) hHeld ?_ ?_
    rotate_left
    ·rintro w' ⟨s0,s1,s2⟩
     go_simp
     with_reducible rfl
    rotate_left
    ·simp only [Act.put,List.setIfInBounds_toArray,List.set_cons_zero,List.set_cons_succ,a_K,a_J]
     rfl
    refine c_f (i:=17) (N:=some 59) (v:=?_) (a':=?_) #[T_,T_,T_,T_,T_,T_,T_,T_,T_,T_,T_,T_,T_,T_,T_,F_,T_,T_,F_,F_,F_,F_,F_,F_,F_,F_,F_,F_] rfl rfl (b_B HT_.out HW_.out (by kernel_rfl)) (fun _ _ _ h => h) (Or.inl ⟨by rfl,?_⟩) hHeld ?_ ?_
    rotate_left
    ·rintro w' ⟨s0,s1,s2⟩
     go_simp
     with_reducible rfl
    rotate_left
    ·simp only [Act.put,List.setIfInBounds_toArray,List.set_cons_zero,List.set_cons_succ,a_K,a_J]
     rfl
    refine one_ (i:=15) (N:=some 57) #[T_,T_,T_,T_,T_,T_,T_,T_,T_,T_,T_,T_,T_,T_,T_,T_,T_,T_,F_,F_,F_,F_,F_,F_,F_,F_,F_,F_] rfl rfl (c_a HT_.out (by kernel_rfl)) (by decide) (fun K hK => ?_)
    refine c_v Try.func18 (by kernel_rfl) rfl #[.agg #[.slice Ao27 t317.length co27],.agg #[.slice Ao29 t321.length co29]] (by rfl) rfl rfl (by (try simp only [List.map_toArray,List.map_cons,List.map_nil]);first|done|rfl|(simp only [List.length_drop,List.length_take];rfl)) ?_
    with_reducible refine (a_O.calls k1 _ _ t317 _ _ t321 t334 _ ?side1 ?side2 ?side3 ?side4 A55.out).mono ?_
    (case side1 => repeat (first|exact (Kd.a_r a_W.out).2.2|(with_reducible refine Kd.a_M ?_ _)|(with_reducible refine Kd.a_N ?_ _)|(with_reducible refine Kd.a_T ?_)))
    (case side2 => exact (Kd.a_r a_W.out).2.1)
    (case side3 => repeat (first|exact (Kd.a_r b_i.out).2.2|(with_reducible refine Kd.a_M ?_ _)|(with_reducible refine Kd.a_N ?_ _)|(with_reducible refine Kd.a_T ?_)))
    (case side4 => exact (Kd.a_r b_i.out).2.1)
    rintro e w64 ⟨rfl,hb⟩
    refine ⟨_,rfl,?_⟩
    replace a_W:=a_a.mk (Kd.a_y (rup_ a_W.out) hb)
    replace b_i:=a_a.mk (Kd.a_y (rup_ b_i.out) hb)
    replace a_C:=a_a.mk (a_e (bup_ a_C.out) hb)
    replace a_x:=a_a.mk (a_e (bup_ a_x.out) hb)
    replace a_I:=a_a.mk (a_e (bup_ a_I.out) hb)
    replace HB:=a_a.mk (a_i (by repeat (first|(with_reducible first|exact HB.out|apply a_f|apply a_d|apply a_g|refine a_c ?_ a_P.out|refine a_c ?_ a_X.out|refine a_c ?_ a_Y.out)|exact HB.out)) hb)
    (try clear hb)
    (try clear hb2)
    (try clear hk)
    (try clear hi)
    refine hK.out _ _ ⟨(a_j a_x.out 0).trans rfl,(a_j a_I.out 0).trans rfl,(a_j a_C.out 0).trans rfl⟩ (fun hHeld => ?_)
    clear hK K
    refine b_x (a':=?_) ?_ ?_
    rotate_left
    ·show Act.put _ (some 57) _ = _
     simp only [Act.put,List.setIfInBounds_toArray,List.set_cons_zero,List.set_cons_succ,a_K,a_J]
     rfl
    refine one_ (i:=18) (N:=some 60) #[T_,T_,T_,T_,T_,T_,T_,T_,T_,T_,T_,T_,T_,T_,T_,T_,T_,T_,T_,F_,F_,F_,F_,F_,F_,F_,F_,F_] rfl rfl (c_a HT_.out (by kernel_rfl)) (by decide) (fun K hK => ?_)
    refine c_v Try.func14 (by kernel_rfl) rfl #[.agg #[.slice Ao27 t317.length co27],.agg #[.slice Ao29 t321.length co29]] (by rfl) rfl rfl (by (try simp only [List.map_toArray,List.map_cons,List.map_nil]);first|done|rfl|(simp only [List.length_drop,List.length_take];rfl)) ?_
    with_reducible refine (a_o.calls k1 _ _ t317 _ _ t321 t335 _ ?side1 ?side2 ?side3 ?side4 A56.out).mono ?_
    (case side1 => repeat (first|exact (Kd.a_r a_W.out).2.2|(with_reducible refine Kd.a_M ?_ _)|(with_reducible refine Kd.a_N ?_ _)|(with_reducible refine Kd.a_T ?_)))
    (case side2 => exact (Kd.a_r a_W.out).2.1)
    (case side3 => repeat (first|exact (Kd.a_r b_i.out).2.2|(with_reducible refine Kd.a_M ?_ _)|(with_reducible refine Kd.a_N ?_ _)|(with_reducible refine Kd.a_T ?_)))
    (case side4 => exact (Kd.a_r b_i.out).2.1)
    rintro e w65 ⟨rfl,hb⟩
    refine ⟨_,rfl,?_⟩
    replace a_W:=a_a.mk (Kd.a_y (rup_ a_W.out) hb)
    replace b_i:=a_a.mk (Kd.a_y (rup_ b_i.out) hb)
    replace a_C:=a_a.mk (a_e (bup_ a_C.out) hb)
    replace a_x:=a_a.mk (a_e (bup_ a_x.out) hb)
    replace a_I:=a_a.mk (a_e (bup_ a_I.out) hb)
    replace HB:=a_a.mk (a_i (by repeat (first|(with_reducible first|exact HB.out|apply a_f|apply a_d|apply a_g|refine a_c ?_ a_P.out|refine a_c ?_ a_X.out|refine a_c ?_ a_Y.out)|exact HB.out)) hb)
    (try clear hb)
    (try clear hb2)
    (try clear hk)
    (try clear hi)
    refine hK.out _ _ ⟨(a_j a_x.out 0).trans rfl,(a_j a_I.out 0).trans rfl,(a_j a_C.out 0).trans rfl⟩ (fun hHeld => ?_)
    clear hK K
    refine b_x (a':=?_) ?_ ?_
    rotate_left
    ·show Act.put _ (some 60) _ = _
     simp only [Act.put,List.setIfInBounds_toArray,List.set_cons_zero,List.set_cons_succ,a_K,a_J]
     rfl
    refine a_U (i:=19) (N:=some 61) (v:=?_) (a':=?_) #[T_,T_,T_,T_,T_,T_,T_,T_,T_,T_,T_,T_,T_,T_,T_,T_,T_,T_,T_,T_,F_,F_,F_,F_,F_,F_,F_,F_] rfl rfl (a_H HT_.out (by kernel_rfl)) (fun _ _ _ h => h) (Or.inl ⟨by rfl,?_⟩) ?_ ?_
    rotate_left
    ·intro w'
     go_simp
     with_reducible rfl
    rotate_left
    ·simp only [Act.put,List.setIfInBounds_toArray,List.set_cons_zero,List.set_cons_succ,a_K,a_J]
     rfl
    refine a_U (i:=20) (N:=some 62) (v:=?_) (a':=?_) #[T_,T_,T_,T_,T_,T_,T_,T_,T_,T_,T_,T_,T_,T_,T_,T_,T_,T_,T_,T_,T_,F_,F_,F_,F_,F_,F_,F_] rfl rfl (a_H HT_.out (by kernel_rfl)) (fun _ _ _ h => h) (Or.inl ⟨by rfl,?_⟩) ?_ ?_
    rotate_left
    ·intro w'
     go_simp
     with_reducible rfl
    rotate_left
    ·simp only [Act.put,List.setIfInBounds_toArray,List.set_cons_zero,List.set_cons_succ,a_K,a_J]
     rfl
    refine a_U (i:=21) (N:=some 63) (v:=?_) (a':=?_) #[T_,T_,T_,T_,T_,T_,T_,T_,T_,T_,T_,T_,T_,T_,T_,T_,T_,T_,T_,T_,T_,T_,F_,F_,F_,F_,F_,F_] rfl rfl (a_H HT_.out (by kernel_rfl)) (fun _ _ _ h => h) (Or.inl ⟨by rfl,?_⟩) ?_ ?_
    rotate_left
    ·intro w'
     go_simp
     with_reducible rfl
    rotate_left
    ·simp only [Act.put,List.setIfInBounds_toArray,List.set_cons_zero,List.set_cons_succ,a_K,a_J]
     rfl
    refine c_f (i:=22) (N:=some 64) (v:=?_) (a':=?_) #[T_,T_,T_,T_,T_,T_,T_,T_,T_,T_,T_,T_,T_,T_,T_,T_,T_,T_,T_,T_,T_,T_,T_,F_,F_,F_,F_,F_] rfl rfl (b_B HT_.out HW_.out (by kernel_rfl)) (fun _ _ _ h => h) (Or.inl ⟨by rfl,?_⟩) hHeld ?_ ?_
    rotate_left
    ·rintro w' ⟨s0,s1,s2⟩
     go_simp
     with_reducible rfl
    rotate_left
    ·simp only [Act.put,List.setIfInBounds_toArray,List.set_cons_zero,List.set_cons_succ,a_K,a_J]
     rfl
    refine c_f (i:=23) (N:=some 65) (v:=?_) (a':=?_) #[T_,T_,T_,T_,T_,T_,T_,T_,T_,T_,T_,T_,T_,T_,T_,T_,T_,T_,T_,T_,T_,T_,T_,T_,F_,F_,F_,F_] rfl rfl (b_B HT_.out HW_.out (by kernel_rfl)) (fun _ _ _ h => h) (Or.inl ⟨by rfl,?_⟩) hHeld ?_ ?_
    rotate_left
    ·rintro w' ⟨s0,s1,s2⟩
     go_simp
     with_reducible rfl
    rotate_left
    ·simp only [Act.put,List.setIfInBounds_toArray,List.set_cons_zero,List.set_cons_succ,a_K,a_J]
     rfl
    refine one_ (i:=24) (N:=some 66) #[T_,T_,T_,T_,T_,T_,T_,T_,T_,T_,T_,T_,T_,T_,T_,T_,T_,T_,T_,T_,T_,T_,T_,T_,T_,F_,F_,F_] rfl rfl (c_a HT_.out (by kernel_rfl)) (by decide) (fun K hK => ?_)
    refine c_v Try.func11 (by kernel_rfl) rfl #[.agg #[.slice A315_0 ((a_L l0 x25_1).f0).length c315_0]] (by rfl) rfl rfl (by (try simp only [List.map_toArray,List.map_cons,List.map_nil]);first|done|rfl|(simp only [List.length_drop,List.length_take];rfl)) ?_
    with_reducible refine (a_v.calls _ _ ((a_L l0 x25_1).f0) t336 _ ?side1 ?side2 A61.out).mono ?_
    (case side1 => repeat (first|exact (Kd.a_8 c_7.out HB.out)|(with_reducible refine Kd.a_M ?_ _)|(with_reducible refine Kd.a_N ?_ _)|(with_reducible refine Kd.a_T ?_)))
    (case side2 => exact c_8.out)
    rintro e w66 ⟨v337,rfl,ho0,hb⟩
    refine ⟨_,rfl,?_⟩
    have g_J:=a_a.mk (Kd.b_y (Kd.c_t (Kd.c_t ho0 (Kd.R_lt (rup_ a_W.out))) (Kd.R_lt (rup_ b_i.out))) (a_m (by repeat (first|(with_reducible first|exact HB.out|apply a_f|apply a_d|apply a_g|refine a_c ?_ a_P.out|refine a_c ?_ a_X.out|refine a_c ?_ a_Y.out)|exact HB.out))))
    replace a_W:=a_a.mk (Kd.b_T (rup_ a_W.out) (Kd.c_k ho0) hb)
    replace b_i:=a_a.mk (Kd.b_T (rup_ b_i.out) (Kd.c_k ho0) hb)
    replace a_C:=a_a.mk (a_e (bup_ a_C.out) hb)
    replace a_x:=a_a.mk (a_e (bup_ a_x.out) hb)
    replace a_I:=a_a.mk (a_e (bup_ a_I.out) hb)
    replace HB:=a_a.mk (a_i (by repeat (first|(with_reducible first|exact HB.out|apply a_f|apply a_d|apply a_g|refine a_c ?_ a_P.out|refine a_c ?_ a_X.out|refine a_c ?_ a_Y.out)|exact HB.out)) hb)
    (try clear hb)
    (try clear hb2)
    (try clear hk)
    (try clear hi)
    (try clear ho0)
    obtain ⟨Ao67,co67,eo67⟩:=Kd.b_D g_J.out
    (first|subst eo67|(injection eo67 with f1_ f2_ f3_;have f4_:=f1_.symm;have f5_:=f3_.symm;clear f1_ f2_ f3_;subst f4_;subst f5_))
    refine hK.out _ _ ⟨(a_j a_x.out 0).trans rfl,(a_j a_I.out 0).trans rfl,(a_j a_C.out 0).trans rfl⟩ (fun hHeld => ?_)
    clear hK K
    refine b_x (a':=?_) ?_ ?_
    rotate_left
    ·show Act.put _ (some 66) _ = _
     simp only [Act.put,List.setIfInBounds_toArray,List.set_cons_zero,List.set_cons_succ,a_K,a_J]
     rfl
    refine one_ (i:=25) (N:=some 67) #[T_,T_,T_,T_,T_,T_,T_,T_,T_,T_,T_,T_,T_,T_,T_,T_,T_,T_,T_,T_,T_,T_,T_,T_,T_,T_,F_,F_] rfl rfl (c_a HT_.out (by kernel_rfl)) (by decide) (fun K hK => ?_)
    refine c_v Try.func18 (by kernel_rfl) rfl #[.agg #[.slice Ao27 t317.length co27],.agg #[.slice Ao67 t336.length co67]] (by rfl) rfl rfl (by (try simp only [List.map_toArray,List.map_cons,List.map_nil]);first|done|rfl|(simp only [List.length_drop,List.length_take];rfl)) ?_
    with_reducible refine (a_O.calls k1 _ _ t317 _ _ t336 t339 _ ?side1 ?side2 ?side3 ?side4 A62.out).mono ?_
    (case side1 => repeat (first|exact (Kd.a_r a_W.out).2.2|(with_reducible refine Kd.a_M ?_ _)|(with_reducible refine Kd.a_N ?_ _)|(with_reducible refine Kd.a_T ?_)))
    (case side2 => exact (Kd.a_r a_W.out).2.1)
    (case side3 => repeat (first|exact (Kd.a_r g_J.out).2.2|(with_reducible refine Kd.a_M ?_ _)|(with_reducible refine Kd.a_N ?_ _)|(with_reducible refine Kd.a_T ?_)))
    (case side4 => exact (Kd.a_r g_J.out).2.1)
    rintro e w68 ⟨rfl,hb⟩
    refine ⟨_,rfl,?_⟩
    replace a_W:=a_a.mk (Kd.a_y (rup_ a_W.out) hb)
    replace b_i:=a_a.mk (Kd.a_y (rup_ b_i.out) hb)
    replace g_J:=a_a.mk (Kd.a_y (rup_ g_J.out) hb)
    replace a_C:=a_a.mk (a_e (bup_ a_C.out) hb)
    replace a_x:=a_a.mk (a_e (bup_ a_x.out) hb)
    replace a_I:=a_a.mk (a_e (bup_ a_I.out) hb)
    replace HB:=a_a.mk (a_i (by repeat (first|(with_reducible first|exact HB.out|apply a_f|apply a_d|apply a_g|refine a_c ?_ a_P.out|refine a_c ?_ a_X.out|refine a_c ?_ a_Y.out)|exact HB.out)) hb)
    (try clear hb)
    (try clear hb2)
    (try clear hk)
    (try clear hi)
    refine hK.out _ _ ⟨(a_j a_x.out 0).trans rfl,(a_j a_I.out 0).trans rfl,(a_j a_C.out 0).trans rfl⟩ (fun hHeld => ?_)
    clear hK K
    refine b_x (a':=?_) ?_ ?_
    rotate_left
    ·show Act.put _ (some 67) _ = _
     simp only [Act.put,List.setIfInBounds_toArray,List.set_cons_zero,List.set_cons_succ,a_K,a_J]
     rfl
    refine a_U (i:=26) (N:=some 68) (v:=?_) (a':=?_) #[T_,T_,T_,T_,T_,T_,T_,T_,T_,T_,T_,T_,T_,T_,T_,T_,T_,T_,T_,T_,T_,T_,T_,T_,T_,T_,T_,F_] rfl rfl (a_H HT_.out (by kernel_rfl)) (fun _ _ _ h => h) (Or.inl ⟨by rfl,?_⟩) ?_ ?_
    rotate_left
    ·intro w'
     go_simp
     with_reducible rfl
    rotate_left
    ·simp only [Act.put,List.setIfInBounds_toArray,List.set_cons_zero,List.set_cons_succ,a_K,a_J]
     rfl
    refine a_U (i:=27) (N:=some 69) (v:=?_) (a':=?_) #[T_,T_,T_,T_,T_,T_,T_,T_,T_,T_,T_,T_,T_,T_,T_,T_,T_,T_,T_,T_,T_,T_,T_,T_,T_,T_,T_,T_] rfl rfl (a_H HT_.out (by kernel_rfl)) (fun _ _ _ h => h) (Or.inl ⟨by rfl,?_⟩) ?_ ?_
    rotate_left
    ·intro w'
     go_simp
     with_reducible rfl
    rotate_left
    ·simp only [Act.put,List.setIfInBounds_toArray,List.set_cons_zero,List.set_cons_succ,a_K,a_J]
     rfl
    refine e_3 (c_Y HT_.out (by kernel_rfl)) ?_
    try go_wp2
    go_meet
    case rel => exact ⟨_,(!t339),(by first|rfl|(simp;done)|(simp [*];done)),H',⟨by have:=HK1.out;first|omega|exact Nat.le_refl _⟩,⟨by (with_reducible repeat (first|apply Kd.a_5|apply Kd.a_1|apply Kd.a_0));exact Kd.b_v a_W.out (fun _ hk => hk.1)⟩,⟨by (with_reducible repeat (first|apply Kd.a_5|apply Kd.a_1|apply Kd.a_0));exact Kd.b_v b_i.out (fun _ hk => hk.1)⟩,⟨by (with_reducible repeat (first|refine a_u ?_ _|refine a_t ?_|refine a_w ?_ _));exact a_C.out⟩,⟨by (with_reducible repeat (first|refine a_u ?_ _|refine a_t ?_|refine a_w ?_ _));exact a_x.out⟩,⟨by (with_reducible repeat (first|refine a_u ?_ _|refine a_t ?_|refine a_w ?_ _));exact a_I.out⟩,⟨by repeat (first|(with_reducible first|exact HB.out|apply a_f|apply a_d|apply a_g|refine a_c ?_ a_P.out|refine a_c ?_ a_X.out|refine a_c ?_ a_Y.out)|exact HB.out)⟩⟩
   case rest =>
    clear HC17
    try clear c1
    try clear p2
    try clear c3
    try clear c5
    try clear c11
    try clear c14
    try clear c18
    try clear c31
    try clear c54
    try clear c54b0
    try clear c54b1
    obtain ⟨kq,x69_16,rfl,HA,HJ16,a_n,a_F,a_C,a_x,a_I,HB⟩:=hcut
    cases kq with
    | zero => exact absurd HA.out (by simp [a_b.j1])
    | succ kj16 =>
     have H:=HA.out
     clear HA
     simp only [a_b.j1] at H
     by_cases c70 : x69_16 = true
     ·subst c70
      have H1 : (some false) = some r:=by rw [if_pos rfl] at H;exact H
      clear H
      have H:=H1
      clear H1
      obtain rfl:=Option.some.inj H
      go_wp2
      go_ret
      exact ⟨by first|rfl|(simp [a_z,a_A] <;> rfl)|(simp [*, a_z,a_A] <;> rfl),by repeat (first|(with_reducible first|exact HB.out|apply a_f|apply a_d|apply a_g|refine a_c ?_ a_P.out|refine a_c ?_ a_X.out|refine a_c ?_ a_Y.out)|exact HB.out)⟩
     replace c70:=Bool.eq_false_iff.mpr c70
     subst c70
     have H1 : (a_b.l1 kj16 l0 l1 t326 0 l0 (l0.length : Int) x25_1 t317 (t317.length : Int) 0 t317) = some r:=by rw [if_neg (show ¬ (false = true) by decide)] at H;exact H
     clear H
     have H:=H1
     clear H1
     have H':=a_a.mk H
     clear H
     have l_P:=a_3.out
     have l_Q:=a_Z.out
     have l_R:=b_c.out
     have l_S:=b_b.out
     have g_K : wc.cell? ⟨a_R,0,none⟩ = some (.slice Ao27 t317.length co27):=(a_j a_x.out 0).trans rfl
     have g_L:=a_k a_x.out 0
     go_wp2
     go_loopg [11,73] kj16 (fun kq v11 v73 w' => ∃ (x11_3 : Int) (x73_3 : Int),v11 = .int .u32 x11_3 ∧ v73 = .int .i64 x73_3 ∧ a_a (a_b.l1 kq l0 l1 t326 x11_3 l0 (l0.length : Int) x25_1 t317 (t317.length : Int) x73_3 t317 = some r) ∧ a_a (kq ≤ kj16) ∧ a_a (Kd.R (Kd.int .u32) 31 w' w.heap.size (fun k_ => some k_ ≠ ((.slice Ao29 t321.length co29) : Value).ownBlock) (.slice Ao27 t317.length co27) t317) ∧ a_a (Kd.R (Kd.int .u32) 31 w' w.heap.size (fun k_ => some k_ ≠ ((.slice Ao29 t321.length co29) : Value).ownBlock) (.slice Ao27 t317.length co27) t317) ∧ a_a (Kd.R (Kd.int .u32) 31 w' w.heap.size (fun k_ => some k_ ≠ ((.slice Ao27 t317.length co27) : Value).ownBlock ∧ some k_ ≠ ((.slice Ao27 t317.length co27) : Value).ownBlock) (.slice Ao29 t321.length co29) t321) ∧ a_a (w'.heap[a_V]? = some (.cells #[(.slice A315_0 ((a_L l0 x25_1).f0).length c315_0)] 26 (0,0))) ∧ a_a (w'.heap[a_R]? = some (.cells #[(.slice Ao27 t317.length co27)] 26 (0,0))) ∧ a_a (w'.heap[a_7]? = some (.cells #[(.slice Ao29 t321.length co29)] 26 (0,0))) ∧ a_a (Below w.heap.size w w'))
     case atStart => exact ⟨(0),(0),(by first|rfl|(simp;done)|(simp [*];done)),(by first|rfl|(simp;done)|(simp [*];done)),H',⟨Nat.le_refl _⟩,⟨by (with_reducible repeat (first|apply Kd.a_5|apply Kd.a_1|apply Kd.a_0));exact a_n.out⟩,⟨by (with_reducible repeat (first|apply Kd.a_5|apply Kd.a_1|apply Kd.a_0));exact a_n.out⟩,⟨by (with_reducible repeat (first|apply Kd.a_5|apply Kd.a_1|apply Kd.a_0));exact Kd.b_v a_F.out (fun _ hk => ⟨hk,hk⟩)⟩,⟨by (with_reducible repeat (first|refine a_u ?_ _|refine a_t ?_|refine a_w ?_ _));exact a_C.out⟩,⟨by (with_reducible repeat (first|refine a_u ?_ _|refine a_t ?_|refine a_w ?_ _));exact a_x.out⟩,⟨by (with_reducible repeat (first|refine a_u ?_ _|refine a_t ?_|refine a_w ?_ _));exact a_I.out⟩,⟨by repeat (first|(with_reducible first|exact HB.out|apply a_f|apply a_d|apply a_g|refine a_c ?_ a_P.out|refine a_c ?_ a_X.out|refine a_c ?_ a_Y.out)|exact HB.out)⟩⟩
     case round =>
      clear H'
      try clear c1
      try clear p2
      try clear c3
      try clear c5
      try clear c7
      try clear c11
      try clear c14
      try clear c18
      try clear c31
      try clear c54
      try clear c54b0
      try clear c54b1
      try clear c70
      try clear c71
      try clear c72
      try clear g_K
      try clear g_L
      try clear p2
      obtain ⟨x11_3,x73_3,rfl,rfl,HA,HK3,e_W,a_n,a_F,a_C,a_x,a_I,HB⟩:=hrel
      cases gk with
      | zero => exact absurd HA.out (by simp [a_b.l1])
      | succ k3 =>
       have H:=HA.out
       clear HA
       simp only [a_b.l1] at H
       by_cases c74 : x73_3 < (t317.length : Int)
       ·rw [if_pos c74] at H
        have c74b0 : decide (x73_3 < (t317.length : Int)) = true:=decide_eq_true c74
        clear c74
        by_cases c75 : 0 ≤ x73_3
        rotate_left
        ·rw [if_neg c75] at H
         exact absurd H (by simp)
        rw [if_pos c75] at H
        have c75b0 : decide (0 ≤ x73_3) = true:=decide_eq_true c75
        clear c75
        by_cases c76 : x73_3 < (t317.length : Int)
        rotate_left
        ·rw [if_neg c76] at H
         exact absurd H (by simp)
        rw [if_pos c76] at H
        have c76b0 : decide (x73_3 < (t317.length : Int)) = true:=decide_eq_true c76
        clear c76
        by_cases c77 : t326 = true
        ·subst c77
         have H1 : (a_b.l1 k3 l0 l1 true (Go.bits .or .u32 x11_3 (rd t317 x73_3)) l0 (l0.length : Int) x25_1 t317 (t317.length : Int) (wrap64 (x73_3 + 1)) t317) = some r:=by rw [if_pos rfl] at H;exact H
         clear H
         have H:=H1
         clear H1
         have H':=a_a.mk H
         clear H
         have p340 : 0 ≤ (x73_3 : Int):=of_decide_eq_true (by first|(with_reducible assumption)|assumption)
         have q340 : x73_3 < (t317.length : Int):=of_decide_eq_true (by first|(with_reducible assumption)|assumption)
         obtain ⟨ad340,e340,g_M⟩:=Kd.b_w (Kd.a_r e_W.out).2.2 x73_3 p340 q340
         cases e340
         replace p340:=eq_true p340
         replace q340:=eq_true q340
         go_wp2
         go_roundg k3
         case measure => have:=HK1.out;have:=HJ16.out;have:=HK3.out;omega
         case rel => exact ⟨(Go.bits .or .u32 x11_3 (rd t317 x73_3)),(wrap64 (x73_3 + 1)),(by first|rfl|(simp;done)|(simp [*];done)),(by first|rfl|(simp;done)|(simp [*];done)),H',⟨by have:=HK1.out;have:=HJ16.out;have:=HK3.out;omega⟩,⟨by (with_reducible repeat (first|apply Kd.a_5|apply Kd.a_1|apply Kd.a_0));exact e_W.out⟩,⟨by (with_reducible repeat (first|apply Kd.a_5|apply Kd.a_1|apply Kd.a_0));exact a_n.out⟩,⟨by (with_reducible repeat (first|apply Kd.a_5|apply Kd.a_1|apply Kd.a_0));exact a_F.out⟩,⟨by (with_reducible repeat (first|refine a_u ?_ _|refine a_t ?_|refine a_w ?_ _));exact a_C.out⟩,⟨by (with_reducible repeat (first|refine a_u ?_ _|refine a_t ?_|refine a_w ?_ _));exact a_x.out⟩,⟨by (with_reducible repeat (first|refine a_u ?_ _|refine a_t ?_|refine a_w ?_ _));exact a_I.out⟩,⟨by repeat (first|(with_reducible first|exact HB.out|apply a_f|apply a_d|apply a_g|refine a_c ?_ a_P.out|refine a_c ?_ a_X.out|refine a_c ?_ a_Y.out)|exact HB.out)⟩⟩
        replace c77:=Bool.eq_false_iff.mpr c77
        subst c77
        have H1 : (a_b.l1 k3 l0 l1 false x11_3 l0 (l0.length : Int) x25_1 t317 (t317.length : Int) (wrap64 (x73_3 + 1)) t317) = some r:=by rw [if_neg (show ¬ (false = true) by decide)] at H;exact H
        clear H
        have H:=H1
        clear H1
        have H':=a_a.mk H
        clear H
        have p340 : 0 ≤ (x73_3 : Int):=of_decide_eq_true (by first|(with_reducible assumption)|assumption)
        have q340 : x73_3 < (t317.length : Int):=of_decide_eq_true (by first|(with_reducible assumption)|assumption)
        obtain ⟨ad340,e340,g_M⟩:=Kd.b_w (Kd.a_r e_W.out).2.2 x73_3 p340 q340
        cases e340
        replace p340:=eq_true p340
        replace q340:=eq_true q340
        go_wp2
        go_roundg k3
        case measure => have:=HK1.out;have:=HJ16.out;have:=HK3.out;omega
        case rel => exact ⟨(x11_3),(wrap64 (x73_3 + 1)),(by first|rfl|(simp;done)|(simp [*];done)),(by first|rfl|(simp;done)|(simp [*];done)),H',⟨by have:=HK1.out;have:=HJ16.out;have:=HK3.out;omega⟩,⟨by (with_reducible repeat (first|apply Kd.a_5|apply Kd.a_1|apply Kd.a_0));exact e_W.out⟩,⟨by (with_reducible repeat (first|apply Kd.a_5|apply Kd.a_1|apply Kd.a_0));exact a_n.out⟩,⟨by (with_reducible repeat (first|apply Kd.a_5|apply Kd.a_1|apply Kd.a_0));exact a_F.out⟩,⟨by (with_reducible repeat (first|refine a_u ?_ _|refine a_t ?_|refine a_w ?_ _));exact a_C.out⟩,⟨by (with_reducible repeat (first|refine a_u ?_ _|refine a_t ?_|refine a_w ?_ _));exact a_x.out⟩,⟨by (with_reducible repeat (first|refine a_u ?_ _|refine a_t ?_|refine a_w ?_ _));exact a_I.out⟩,⟨by repeat (first|(with_reducible first|exact HB.out|apply a_f|apply a_d|apply a_g|refine a_c ?_ a_P.out|refine a_c ?_ a_X.out|refine a_c ?_ a_Y.out)|exact HB.out)⟩⟩
       rw [if_neg c74] at H
       have c74b0 : decide (x73_3 < (t317.length : Int)) = false:=decide_eq_false c74
       clear c74
       replace H:=Option.bind_eq_some_iff.mp H
       obtain ⟨t341,A780,H⟩:=H
       replace H : (if t341 = x11_3 then (a_b.l2 k3 l0 l1 t326 l0 (l0.length : Int) x25_1 l1 (l1.length : Int) 0 t317) else (some false)) = some r:=H
       have A78:=a_a.mk A780
       clear A780
       by_cases c79 : t341 = x11_3
       rotate_left
       ·rw [if_neg c79] at H
        have c79b0 : (t341 == x11_3) = false:=beq_eq_false_iff_ne.mpr c79
        have c79b1 : (t341 != x11_3) = true:=bne_iff_ne.mpr c79
        obtain rfl:=Option.some.inj H
        have k_z:=a_3.out
        have k_A:=a_Z.out
        have k_B:=b_c.out
        have k_C:=b_b.out
        have i_L : wr.cell? ⟨a_R,0,none⟩ = some (.slice Ao27 t317.length co27):=(a_j a_x.out 0).trans rfl
        have i_M:=a_k a_x.out 0
        go_wp2_with (first|((with_reducible refine a_B (f:=19) rfl ?_);refine b_f (some 83) rfl rfl Try.func19 (by kernel_rfl) rfl #[.agg #[.slice Ao27 t317.length co27]] rfl (by (try simp only [List.map_toArray,List.map_cons,List.map_nil]);first|done|rfl|(simp only [List.length_drop,List.length_take];rfl)) ?_;(with_reducible refine (a_2.calls k3 _ _ t317 t341 _ ?side1 ?side2 A78.out).mono ?_);(case side1 => repeat (first|exact (Kd.a_r a_n.out).2.2|(with_reducible refine Kd.a_M ?_ _)|(with_reducible refine Kd.a_N ?_ _)|(with_reducible refine Kd.a_T ?_)));(case side2 => exact (Kd.a_r a_n.out).2.1);rintro e w204 ⟨rfl,hb⟩;refine ⟨_,rfl,?_⟩;replace e_W:=a_a.mk (Kd.a_y (rup_ e_W.out) hb);replace a_n:=a_a.mk (Kd.a_y (rup_ a_n.out) hb);replace a_F:=a_a.mk (Kd.a_y (rup_ a_F.out) hb);replace a_C:=a_a.mk (a_e (bup_ a_C.out) hb);replace a_x:=a_a.mk (a_e (bup_ a_x.out) hb);replace a_I:=a_a.mk (a_e (bup_ a_I.out) hb);replace HB:=a_a.mk (a_i (by repeat (first|(with_reducible first|exact HB.out|apply a_f|apply a_d|apply a_g|refine a_c ?_ a_P.out|refine a_c ?_ a_X.out|refine a_c ?_ a_Y.out)|exact HB.out)) hb);(try clear hb);(try clear hb2);(try clear hk);(try clear hi)))
        go_ret
        exact ⟨by first|rfl|(simp [a_z,a_A] <;> rfl)|(simp [*, a_z,a_A] <;> rfl),by repeat (first|(with_reducible first|exact HB.out|apply a_f|apply a_d|apply a_g|refine a_c ?_ a_P.out|refine a_c ?_ a_X.out|refine a_c ?_ a_Y.out)|exact HB.out)⟩
       rw [if_pos c79] at H
       have c79b0 : (t341 == x11_3) = true:=beq_iff_eq.mpr c79
       have c79b1 : (t341 != x11_3) = false:=bne_eq_false_iff_eq.mpr c79
       clear c79
       have H':=a_a.mk H
       clear H
       have l_T:=a_3.out
       have l_U:=a_Z.out
       have l_V:=b_c.out
       have l_W:=b_b.out
       have h_Y : wr.cell? ⟨a_R,0,none⟩ = some (.slice Ao27 t317.length co27):=(a_j a_x.out 0).trans rfl
       have h_Z:=a_k a_x.out 0
       go_wp2_with (first|((with_reducible refine a_B (f:=19) rfl ?_);refine b_f (some 83) rfl rfl Try.func19 (by kernel_rfl) rfl #[.agg #[.slice Ao27 t317.length co27]] rfl (by (try simp only [List.map_toArray,List.map_cons,List.map_nil]);first|done|rfl|(simp only [List.length_drop,List.length_take];rfl)) ?_;(with_reducible refine (a_2.calls k3 _ _ t317 t341 _ ?side1 ?side2 A78.out).mono ?_);(case side1 => repeat (first|exact (Kd.a_r a_n.out).2.2|(with_reducible refine Kd.a_M ?_ _)|(with_reducible refine Kd.a_N ?_ _)|(with_reducible refine Kd.a_T ?_)));(case side2 => exact (Kd.a_r a_n.out).2.1);rintro e w83 ⟨rfl,hb⟩;refine ⟨_,rfl,?_⟩;replace e_W:=a_a.mk (Kd.a_y (rup_ e_W.out) hb);replace a_n:=a_a.mk (Kd.a_y (rup_ a_n.out) hb);replace a_F:=a_a.mk (Kd.a_y (rup_ a_F.out) hb);replace a_C:=a_a.mk (a_e (bup_ a_C.out) hb);replace a_x:=a_a.mk (a_e (bup_ a_x.out) hb);replace a_I:=a_a.mk (a_e (bup_ a_I.out) hb);replace HB:=a_a.mk (a_i (by repeat (first|(with_reducible first|exact HB.out|apply a_f|apply a_d|apply a_g|refine a_c ?_ a_P.out|refine a_c ?_ a_X.out|refine a_c ?_ a_Y.out)|exact HB.out)) hb);(try clear hb);(try clear hb2);(try clear hk);(try clear hi)))
       go_loopg [88] k3 (fun kq v88 w' => ∃ (x88_4 : Int),v88 = .int .i64 x88_4 ∧ a_a (a_b.l2 kq l0 l1 t326 l0 (l0.length : Int) x25_1 l1 (l1.length : Int) x88_4 t317 = some r) ∧ a_a (kq ≤ k3) ∧ a_a (Kd.R (Kd.int .u32) 31 w' w.heap.size (fun k_ => some k_ ≠ ((.slice Ao29 t321.length co29) : Value).ownBlock) (.slice Ao27 t317.length co27) t317) ∧ a_a (Kd.R (Kd.int .u32) 31 w' w.heap.size (fun k_ => some k_ ≠ ((.slice Ao27 t317.length co27) : Value).ownBlock) (.slice Ao29 t321.length co29) t321) ∧ a_a (w'.heap[a_V]? = some (.cells #[(.slice A315_0 ((a_L l0 x25_1).f0).length c315_0)] 26 (0,0))) ∧ a_a (w'.heap[a_R]? = some (.cells #[(.slice Ao27 t317.length co27)] 26 (0,0))) ∧ a_a (w'.heap[a_7]? = some (.cells #[(.slice Ao29 t321.length co29)] 26 (0,0))) ∧ a_a (Below w.heap.size w w'))
       case atStart => exact ⟨(0),(by first|rfl|(simp;done)|(simp [*];done)),H',⟨Nat.le_refl _⟩,⟨by (with_reducible repeat (first|apply Kd.a_5|apply Kd.a_1|apply Kd.a_0));exact a_n.out⟩,⟨by (with_reducible repeat (first|apply Kd.a_5|apply Kd.a_1|apply Kd.a_0));exact Kd.b_v a_F.out (fun _ hk => hk.2)⟩,⟨by (with_reducible repeat (first|refine a_u ?_ _|refine a_t ?_|refine a_w ?_ _));exact a_C.out⟩,⟨by (with_reducible repeat (first|refine a_u ?_ _|refine a_t ?_|refine a_w ?_ _));exact a_x.out⟩,⟨by (with_reducible repeat (first|refine a_u ?_ _|refine a_t ?_|refine a_w ?_ _));exact a_I.out⟩,⟨by repeat (first|(with_reducible first|exact HB.out|apply a_f|apply a_d|apply a_g|refine a_c ?_ a_P.out|refine a_c ?_ a_X.out|refine a_c ?_ a_Y.out)|exact HB.out)⟩⟩
       case round =>
        clear H'
        try clear c1
        try clear p2
        try clear c3
        try clear p3
        try clear q3
        try clear hx3
        try clear c5
        try clear p6
        try clear c7
        try clear c8
        try clear c11
        try clear c14
        try clear c18
        try clear c19
        try clear c31
        try clear p34
        try clear q34
        try clear hx34
        try clear c54
        try clear c54b0
        try clear c54b1
        try clear p64
        try clear c70
        try clear c71
        try clear c72
        try clear c74
        try clear c74b0
        try clear c75
        try clear c75b0
        try clear c76
        try clear c76b0
        try clear c77
        try clear c79
        try clear c79b0
        try clear c79b1
        try clear c80
        try clear c81
        try clear g_K
        try clear h_Y
        try clear g_L
        try clear h_Z
        try clear g_M
        try clear p2
        try clear p340
        try clear q340
        obtain ⟨x88_4,rfl,HA,HK4,a_n,a_F,a_C,a_x,a_I,HB⟩:=hrel
        cases gk with
        | zero => exact absurd HA.out (by simp [a_b.l2])
        | succ k4 =>
         have H:=HA.out
         clear HA
         simp only [a_b.l2] at H
         by_cases c84 : x88_4 < (l1.length : Int)
         rotate_left
         ·rw [if_neg c84] at H
          have c84b0 : decide (x88_4 < (l1.length : Int)) = false:=decide_eq_false c84
          clear c84
          have H':=a_a.mk H
          clear H
          go_wp2
          go_roundg k4
          case measure => have:=HK1.out;have:=HJ16.out;have:=HK3.out;have:=HK4.out;omega
          case rel => exact ⟨(wrap64 (x25_1 + 1)),(by first|rfl|(simp;done)|(simp [*];done)),H',⟨by have:=HK1.out;have:=HJ16.out;have:=HK3.out;have:=HK4.out;omega⟩,⟨by repeat (first|(with_reducible first|exact HB.out|apply a_f|apply a_d|apply a_g|refine a_c ?_ a_P.out|refine a_c ?_ a_X.out|refine a_c ?_ a_Y.out)|exact HB.out)⟩⟩
         rw [if_pos c84] at H
         have c84b0 : decide (x88_4 < (l1.length : Int)) = true:=decide_eq_true c84
         clear c84
         by_cases c85 : 0 ≤ x88_4
         rotate_left
         ·rw [if_neg c85] at H
          exact absurd H (by simp)
         rw [if_pos c85] at H
         have c85b0 : decide (0 ≤ x88_4) = true:=decide_eq_true c85
         clear c85
         by_cases c86 : x88_4 < (l1.length : Int)
         rotate_left
         ·rw [if_neg c86] at H
          exact absurd H (by simp)
         rw [if_pos c86] at H
         have c86b0 : decide (x88_4 < (l1.length : Int)) = true:=decide_eq_true c86
         clear c86
         by_cases c87 : x88_4 = 12
         ·rw [if_pos c87] at H
          have c87b0 : (x88_4 == 12) = true:=beq_iff_eq.mpr c87
          have c87b1 : (x88_4 != 12) = false:=bne_eq_false_iff_eq.mpr c87
          clear c87
          have H':=a_a.mk H
          clear H
          have p342 : 0 ≤ (x88_4 : Int):=of_decide_eq_true (by first|(with_reducible assumption)|assumption)
          have q342 : x88_4 < (l1.length : Int):=of_decide_eq_true (by first|(with_reducible assumption)|assumption)
          obtain ⟨ad342,e342,b_e⟩:=Kd.b_w HR1.out x88_4 p342 q342
          cases e342
          replace b_e:=(HB.out.cell (World.block_lt_of_cell? w _ b_e)).trans b_e
          replace p342:=eq_true p342
          replace q342:=eq_true q342
          go_wp2
          go_roundg k4
          case measure => have:=HK1.out;have:=HJ16.out;have:=HK3.out;have:=HK4.out;omega
          case rel => exact ⟨(wrap64 (x25_1 + 1)),(by first|rfl|(simp;done)|(simp [*];done)),H',⟨by have:=HK1.out;have:=HJ16.out;have:=HK3.out;have:=HK4.out;omega⟩,⟨by repeat (first|(with_reducible first|exact HB.out|apply a_f|apply a_d|apply a_g|refine a_c ?_ a_P.out|refine a_c ?_ a_X.out|refine a_c ?_ a_Y.out)|exact HB.out)⟩⟩
         rw [if_neg c87] at H
         have c87b0 : (x88_4 == 12) = false:=beq_eq_false_iff_ne.mpr c87
         have c87b1 : (x88_4 != 12) = true:=bne_iff_ne.mpr c87
         replace H:=Option.bind_eq_some_iff.mp H
         obtain ⟨⟨t343,t344⟩,A880,H⟩:=H
         replace H : (if t326 = true then ((a_l.f k4 t317 (rd l1 x88_4)).bind fun bt345 => ((a_S.f t317 (rd l1 x88_4)).bind fun t347 => (if t347 = true then (if 0 ≤ (rd l1 x88_4) then (if (rd l1 x88_4) < (t317.length : Int) then (if t343 = bt345.1 then (if (t344 != bt345.2) = true then (some false) else ((b_d.f k4 t317 (rd l1 x88_4)).bind fun t349 => (if t349 = (rd t317 (rd l1 x88_4)) then (a_b.l2 k4 l0 l1 t326 l0 (l0.length : Int) x25_1 l1 (l1.length : Int) (wrap64 (x88_4 + 1)) t317) else (some false)))) else (some false)) else (none)) else (none)) else (if t343 = bt345.1 then (if (t344 != bt345.2) = true then (some false) else ((b_d.f k4 t317 (rd l1 x88_4)).bind fun t350 => (if t350 = 0 then (a_b.l2 k4 l0 l1 t326 l0 (l0.length : Int) x25_1 l1 (l1.length : Int) (wrap64 (x88_4 + 1)) t317) else (some false)))) else (some false))))) else (if t343 = 0 then (if (t344 != false) = true then (some false) else ((b_d.f k4 t317 (rd l1 x88_4)).bind fun t351 => (if t351 = 0 then (a_b.l2 k4 l0 l1 t326 l0 (l0.length : Int) x25_1 l1 (l1.length : Int) (wrap64 (x88_4 + 1)) t317) else (some false)))) else (some false))) = some r:=H
         have A88:=a_a.mk A880
         clear A880
         by_cases c89 : t326 = true
         rotate_left
         ·replace c89:=Bool.eq_false_iff.mpr c89
          subst c89
          have H1 : (if t343 = 0 then (if (t344 != false) = true then (some false) else ((b_d.f k4 t317 (rd l1 x88_4)).bind fun t351 => (if t351 = 0 then (a_b.l2 k4 l0 l1 false l0 (l0.length : Int) x25_1 l1 (l1.length : Int) (wrap64 (x88_4 + 1)) t317) else (some false)))) else (some false)) = some r:=by rw [if_neg (show ¬ (false = true) by decide)] at H;exact H
          clear H
          have H:=H1
          clear H1
          by_cases c177 : t343 = 0
          rotate_left
          ·rw [if_neg c177] at H
           have c177b0 : (t343 == 0) = false:=beq_eq_false_iff_ne.mpr c177
           have c177b1 : (t343 != 0) = true:=bne_iff_ne.mpr c177
           obtain rfl:=Option.some.inj H
           have p342 : 0 ≤ (x88_4 : Int):=of_decide_eq_true (by first|(with_reducible assumption)|assumption)
           have q342 : x88_4 < (l1.length : Int):=of_decide_eq_true (by first|(with_reducible assumption)|assumption)
           obtain ⟨ad342,e342,b_e⟩:=Kd.b_w HR1.out x88_4 p342 q342
           cases e342
           replace b_e:=(HB.out.cell (World.block_lt_of_cell? w _ b_e)).trans b_e
           replace p342:=eq_true p342
           replace q342:=eq_true q342
           have k_D:=a_3.out
           have k_E:=a_Z.out
           have k_F:=b_c.out
           have k_G:=b_b.out
           have i_N : wr.cell? ⟨a_R,0,none⟩ = some (.slice Ao27 t317.length co27):=(a_j a_x.out 0).trans rfl
           have i_O:=a_k a_x.out 0
           go_wp2_with (first|((with_reducible refine a_B (f:=20) rfl ?_);refine b_f (some 98) rfl rfl Try.func20 (by kernel_rfl) rfl #[.agg #[.slice Ao27 t317.length co27],.int .i64 (rd l1 x88_4)] rfl (by (try simp only [List.map_toArray,List.map_cons,List.map_nil]);first|done|rfl|(simp only [List.length_drop,List.length_take];rfl)) ?_;(with_reducible refine (b_k.calls k4 _ _ t317 (rd l1 x88_4) t343 t344 _ ?side1 ?side2 A88.out).mono ?_);(case side1 => repeat (first|exact (Kd.a_r a_n.out).2.2|(with_reducible refine Kd.a_M ?_ _)|(with_reducible refine Kd.a_N ?_ _)|(with_reducible refine Kd.a_T ?_)));(case side2 => exact (Kd.a_r a_n.out).2.1);rintro e w200 ⟨rfl,hb⟩;refine ⟨_,rfl,?_⟩;replace a_n:=a_a.mk (Kd.a_y (rup_ a_n.out) hb);replace a_F:=a_a.mk (Kd.a_y (rup_ a_F.out) hb);replace a_C:=a_a.mk (a_e (bup_ a_C.out) hb);replace a_x:=a_a.mk (a_e (bup_ a_x.out) hb);replace a_I:=a_a.mk (a_e (bup_ a_I.out) hb);replace HB:=a_a.mk (a_i (by repeat (first|(with_reducible first|exact HB.out|apply a_f|apply a_d|apply a_g|refine a_c ?_ a_P.out|refine a_c ?_ a_X.out|refine a_c ?_ a_Y.out)|exact HB.out)) hb);(try clear hb);(try clear hb2);(try clear hk);(try clear hi)))
           go_ret
           exact ⟨by first|rfl|(simp [a_z,a_A] <;> rfl)|(simp [*, a_z,a_A] <;> rfl),by repeat (first|(with_reducible first|exact HB.out|apply a_f|apply a_d|apply a_g|refine a_c ?_ a_P.out|refine a_c ?_ a_X.out|refine a_c ?_ a_Y.out)|exact HB.out)⟩
          rw [if_pos c177] at H
          have c177b0 : (t343 == 0) = true:=beq_iff_eq.mpr c177
          have c177b1 : (t343 != 0) = false:=bne_eq_false_iff_eq.mpr c177
          clear c177
          by_cases c178 : (t344 != false) = true
          ·rw [if_pos c178] at H
           have c178b0 : (t344 != false) = true:=c178
           (try (have c178b1 : decide (t344 = false) = false:=by simpa using c178))
           (try (have c178b2 : (t344 == false) = false:=by simpa using c178))
           (try (have c178b3 : ¬ (t344 = false):=by simpa using c178))
           clear c178
           obtain rfl:=Option.some.inj H
           have p342 : 0 ≤ (x88_4 : Int):=of_decide_eq_true (by first|(with_reducible assumption)|assumption)
           have q342 : x88_4 < (l1.length : Int):=of_decide_eq_true (by first|(with_reducible assumption)|assumption)
           obtain ⟨ad342,e342,b_e⟩:=Kd.b_w HR1.out x88_4 p342 q342
           cases e342
           replace b_e:=(HB.out.cell (World.block_lt_of_cell? w _ b_e)).trans b_e
           replace p342:=eq_true p342
           replace q342:=eq_true q342
           have k_H:=a_3.out
           have k_I:=a_Z.out
           have k_J:=b_c.out
           have k_K:=b_b.out
           have i_P : wr.cell? ⟨a_R,0,none⟩ = some (.slice Ao27 t317.length co27):=(a_j a_x.out 0).trans rfl
           have i_Q:=a_k a_x.out 0
           go_wp2_with (first|((with_reducible refine a_B (f:=20) rfl ?_);refine b_f (some 98) rfl rfl Try.func20 (by kernel_rfl) rfl #[.agg #[.slice Ao27 t317.length co27],.int .i64 (rd l1 x88_4)] rfl (by (try simp only [List.map_toArray,List.map_cons,List.map_nil]);first|done|rfl|(simp only [List.length_drop,List.length_take];rfl)) ?_;(with_reducible refine (b_k.calls k4 _ _ t317 (rd l1 x88_4) t343 t344 _ ?side1 ?side2 A88.out).mono ?_);(case side1 => repeat (first|exact (Kd.a_r a_n.out).2.2|(with_reducible refine Kd.a_M ?_ _)|(with_reducible refine Kd.a_N ?_ _)|(with_reducible refine Kd.a_T ?_)));(case side2 => exact (Kd.a_r a_n.out).2.1);rintro e w182 ⟨rfl,hb⟩;refine ⟨_,rfl,?_⟩;replace a_n:=a_a.mk (Kd.a_y (rup_ a_n.out) hb);replace a_F:=a_a.mk (Kd.a_y (rup_ a_F.out) hb);replace a_C:=a_a.mk (a_e (bup_ a_C.out) hb);replace a_x:=a_a.mk (a_e (bup_ a_x.out) hb);replace a_I:=a_a.mk (a_e (bup_ a_I.out) hb);replace HB:=a_a.mk (a_i (by repeat (first|(with_reducible first|exact HB.out|apply a_f|apply a_d|apply a_g|refine a_c ?_ a_P.out|refine a_c ?_ a_X.out|refine a_c ?_ a_Y.out)|exact HB.out)) hb);(try clear hb);(try clear hb2);(try clear hk);(try clear hi)))
           go_ret
           exact ⟨by first|rfl|(simp [a_z,a_A] <;> rfl)|(simp [*, a_z,a_A] <;> rfl),by repeat (first|(with_reducible first|exact HB.out|apply a_f|apply a_d|apply a_g|refine a_c ?_ a_P.out|refine a_c ?_ a_X.out|refine a_c ?_ a_Y.out)|exact HB.out)⟩
          rw [if_neg c178] at H
          have c178b0 : (t344 != false) = false:=by simpa using c178
          (try (have c178b1 : decide (t344 = false) = true:=by simpa using c178))
          (try (have c178b2 : (t344 == false) = true:=by simpa using c178))
          clear c178
          replace H:=Option.bind_eq_some_iff.mp H
          obtain ⟨t351,A1830,H⟩:=H
          replace H : (if t351 = 0 then (a_b.l2 k4 l0 l1 false l0 (l0.length : Int) x25_1 l1 (l1.length : Int) (wrap64 (x88_4 + 1)) t317) else (some false)) = some r:=H
          have A183:=a_a.mk A1830
          clear A1830
          by_cases c184 : t351 = 0
          rotate_left
          ·rw [if_neg c184] at H
           have c184b0 : (t351 == 0) = false:=beq_eq_false_iff_ne.mpr c184
           have c184b1 : (t351 != 0) = true:=bne_iff_ne.mpr c184
           obtain rfl:=Option.some.inj H
           have p342 : 0 ≤ (x88_4 : Int):=of_decide_eq_true (by first|(with_reducible assumption)|assumption)
           have q342 : x88_4 < (l1.length : Int):=of_decide_eq_true (by first|(with_reducible assumption)|assumption)
           obtain ⟨ad342,e342,b_e⟩:=Kd.b_w HR1.out x88_4 p342 q342
           cases e342
           replace b_e:=(HB.out.cell (World.block_lt_of_cell? w _ b_e)).trans b_e
           replace p342:=eq_true p342
           replace q342:=eq_true q342
           have k_L:=a_3.out
           have k_M:=a_Z.out
           have k_N:=b_c.out
           have k_O:=b_b.out
           have i_R : wr.cell? ⟨a_R,0,none⟩ = some (.slice Ao27 t317.length co27):=(a_j a_x.out 0).trans rfl
           have i_S:=a_k a_x.out 0
           go_wp2_with (first|((with_reducible refine a_B (f:=20) rfl ?_);refine b_f (some 98) rfl rfl Try.func20 (by kernel_rfl) rfl #[.agg #[.slice Ao27 t317.length co27],.int .i64 (rd l1 x88_4)] rfl (by (try simp only [List.map_toArray,List.map_cons,List.map_nil]);first|done|rfl|(simp only [List.length_drop,List.length_take];rfl)) ?_;(with_reducible refine (b_k.calls k4 _ _ t317 (rd l1 x88_4) t343 t344 _ ?side1 ?side2 A88.out).mono ?_);(case side1 => repeat (first|exact (Kd.a_r a_n.out).2.2|(with_reducible refine Kd.a_M ?_ _)|(with_reducible refine Kd.a_N ?_ _)|(with_reducible refine Kd.a_T ?_)));(case side2 => exact (Kd.a_r a_n.out).2.1);rintro e w194 ⟨rfl,hb⟩;refine ⟨_,rfl,?_⟩;replace a_n:=a_a.mk (Kd.a_y (rup_ a_n.out) hb);replace a_F:=a_a.mk (Kd.a_y (rup_ a_F.out) hb);replace a_C:=a_a.mk (a_e (bup_ a_C.out) hb);replace a_x:=a_a.mk (a_e (bup_ a_x.out) hb);replace a_I:=a_a.mk (a_e (bup_ a_I.out) hb);replace HB:=a_a.mk (a_i (by repeat (first|(with_reducible first|exact HB.out|apply a_f|apply a_d|apply a_g|refine a_c ?_ a_P.out|refine a_c ?_ a_X.out|refine a_c ?_ a_Y.out)|exact HB.out)) hb);(try clear hb);(try clear hb2);(try clear hk);(try clear hi);have i_T : w194.cell? ⟨a_R,0,none⟩ = some (.slice Ao27 t317.length co27):=(a_j a_x.out 0).trans rfl;have i_U:=a_k a_x.out 0)|(go_at_call 23;(with_reducible refine (b_d.calls k4 _ _ t317 (rd l1 x88_4) t351 _ ?side1 ?side2 A183.out).mono ?_);(case side1 => repeat (first|exact (Kd.a_r a_n.out).2.2|(with_reducible refine Kd.a_M ?_ _)|(with_reducible refine Kd.a_N ?_ _)|(with_reducible refine Kd.a_T ?_)));(case side2 => exact (Kd.a_r a_n.out).2.1);rintro e w196 ⟨rfl,hb⟩;replace a_n:=a_a.mk (Kd.a_y (rup_ a_n.out) hb);replace a_F:=a_a.mk (Kd.a_y (rup_ a_F.out) hb);replace a_C:=a_a.mk (a_e (bup_ a_C.out) hb);replace a_x:=a_a.mk (a_e (bup_ a_x.out) hb);replace a_I:=a_a.mk (a_e (bup_ a_I.out) hb);replace HB:=a_a.mk (a_i (by repeat (first|(with_reducible first|exact HB.out|apply a_f|apply a_d|apply a_g|refine a_c ?_ a_P.out|refine a_c ?_ a_X.out|refine a_c ?_ a_Y.out)|exact HB.out)) hb);(try clear hb);(try clear hb2);(try clear hk);(try clear hi)))
           go_ret
           exact ⟨by first|rfl|(simp [a_z,a_A] <;> rfl)|(simp [*, a_z,a_A] <;> rfl),by repeat (first|(with_reducible first|exact HB.out|apply a_f|apply a_d|apply a_g|refine a_c ?_ a_P.out|refine a_c ?_ a_X.out|refine a_c ?_ a_Y.out)|exact HB.out)⟩
          rw [if_pos c184] at H
          have c184b0 : (t351 == 0) = true:=beq_iff_eq.mpr c184
          have c184b1 : (t351 != 0) = false:=bne_eq_false_iff_eq.mpr c184
          clear c184
          have H':=a_a.mk H
          clear H
          have p342 : 0 ≤ (x88_4 : Int):=of_decide_eq_true (by first|(with_reducible assumption)|assumption)
          have q342 : x88_4 < (l1.length : Int):=of_decide_eq_true (by first|(with_reducible assumption)|assumption)
          obtain ⟨ad342,e342,b_e⟩:=Kd.b_w HR1.out x88_4 p342 q342
          cases e342
          replace b_e:=(HB.out.cell (World.block_lt_of_cell? w _ b_e)).trans b_e
          replace p342:=eq_true p342
          replace q342:=eq_true q342
          have k_P:=a_3.out
          have k_Q:=a_Z.out
          have k_R:=b_c.out
          have k_S:=b_b.out
          have i_V : wr.cell? ⟨a_R,0,none⟩ = some (.slice Ao27 t317.length co27):=(a_j a_x.out 0).trans rfl
          have i_W:=a_k a_x.out 0
          go_wp2_with (first|((with_reducible refine a_B (f:=20) rfl ?_);refine b_f (some 98) rfl rfl Try.func20 (by kernel_rfl) rfl #[.agg #[.slice Ao27 t317.length co27],.int .i64 (rd l1 x88_4)] rfl (by (try simp only [List.map_toArray,List.map_cons,List.map_nil]);first|done|rfl|(simp only [List.length_drop,List.length_take];rfl)) ?_;(with_reducible refine (b_k.calls k4 _ _ t317 (rd l1 x88_4) t343 t344 _ ?side1 ?side2 A88.out).mono ?_);(case side1 => repeat (first|exact (Kd.a_r a_n.out).2.2|(with_reducible refine Kd.a_M ?_ _)|(with_reducible refine Kd.a_N ?_ _)|(with_reducible refine Kd.a_T ?_)));(case side2 => exact (Kd.a_r a_n.out).2.1);rintro e w188 ⟨rfl,hb⟩;refine ⟨_,rfl,?_⟩;replace a_n:=a_a.mk (Kd.a_y (rup_ a_n.out) hb);replace a_F:=a_a.mk (Kd.a_y (rup_ a_F.out) hb);replace a_C:=a_a.mk (a_e (bup_ a_C.out) hb);replace a_x:=a_a.mk (a_e (bup_ a_x.out) hb);replace a_I:=a_a.mk (a_e (bup_ a_I.out) hb);replace HB:=a_a.mk (a_i (by repeat (first|(with_reducible first|exact HB.out|apply a_f|apply a_d|apply a_g|refine a_c ?_ a_P.out|refine a_c ?_ a_X.out|refine a_c ?_ a_Y.out)|exact HB.out)) hb);(try clear hb);(try clear hb2);(try clear hk);(try clear hi);have i_X : w188.cell? ⟨a_R,0,none⟩ = some (.slice Ao27 t317.length co27):=(a_j a_x.out 0).trans rfl;have i_Y:=a_k a_x.out 0)|(go_at_call 23;(with_reducible refine (b_d.calls k4 _ _ t317 (rd l1 x88_4) t351 _ ?side1 ?side2 A183.out).mono ?_);(case side1 => repeat (first|exact (Kd.a_r a_n.out).2.2|(with_reducible refine Kd.a_M ?_ _)|(with_reducible refine Kd.a_N ?_ _)|(with_reducible refine Kd.a_T ?_)));(case side2 => exact (Kd.a_r a_n.out).2.1);rintro e w190 ⟨rfl,hb⟩;replace a_n:=a_a.mk (Kd.a_y (rup_ a_n.out) hb);replace a_F:=a_a.mk (Kd.a_y (rup_ a_F.out) hb);replace a_C:=a_a.mk (a_e (bup_ a_C.out) hb);replace a_x:=a_a.mk (a_e (bup_ a_x.out) hb);replace a_I:=a_a.mk (a_e (bup_ a_I.out) hb);replace HB:=a_a.mk (a_i (by repeat (first|(with_reducible first|exact HB.out|apply a_f|apply a_d|apply a_g|refine a_c ?_ a_P.out|refine a_c ?_ a_X.out|refine a_c ?_ a_Y.out)|exact HB.out)) hb);(try clear hb);(try clear hb2);(try clear hk);(try clear hi)))
          go_roundg k4
          case measure => have:=HK1.out;have:=HJ16.out;have:=HK3.out;have:=HK4.out;omega
          case rel => exact ⟨(wrap64 (x88_4 + 1)),(by first|rfl|(simp;done)|(simp [*];done)),H',⟨by have:=HK1.out;have:=HJ16.out;have:=HK3.out;have:=HK4.out;omega⟩,⟨by (with_reducible repeat (first|apply Kd.a_5|apply Kd.a_1|apply Kd.a_0));exact a_n.out⟩,⟨by (with_reducible repeat (first|apply Kd.a_5|apply Kd.a_1|apply Kd.a_0));exact a_F.out⟩,⟨by (with_reducible repeat (first|refine a_u ?_ _|refine a_t ?_|refine a_w ?_ _));exact a_C.out⟩,⟨by (with_reducible repeat (first|refine a_u ?_ _|refine a_t ?_|refine a_w ?_ _));exact a_x.out⟩,⟨by (with_reducible repeat (first|refine a_u ?_ _|refine a_t ?_|refine a_w ?_ _));exact a_I.out⟩,⟨by repeat (first|(with_reducible first|exact HB.out|apply a_f|apply a_d|apply a_g|refine a_c ?_ a_P.out|refine a_c ?_ a_X.out|refine a_c ?_ a_Y.out)|exact HB.out)⟩⟩
         subst c89
         have H1 : ((a_l.f k4 t317 (rd l1 x88_4)).bind fun bt345 => ((a_S.f t317 (rd l1 x88_4)).bind fun t347 => (if t347 = true then (if 0 ≤ (rd l1 x88_4) then (if (rd l1 x88_4) < (t317.length : Int) then (if t343 = bt345.1 then (if (t344 != bt345.2) = true then (some false) else ((b_d.f k4 t317 (rd l1 x88_4)).bind fun t349 => (if t349 = (rd t317 (rd l1 x88_4)) then (a_b.l2 k4 l0 l1 true l0 (l0.length : Int) x25_1 l1 (l1.length : Int) (wrap64 (x88_4 + 1)) t317) else (some false)))) else (some false)) else (none)) else (none)) else (if t343 = bt345.1 then (if (t344 != bt345.2) = true then (some false) else ((b_d.f k4 t317 (rd l1 x88_4)).bind fun t350 => (if t350 = 0 then (a_b.l2 k4 l0 l1 true l0 (l0.length : Int) x25_1 l1 (l1.length : Int) (wrap64 (x88_4 + 1)) t317) else (some false)))) else (some false))))) = some r:=by rw [if_pos rfl] at H;exact H
         clear H
         have H:=H1
         clear H1
         replace H:=Option.bind_eq_some_iff.mp H
         obtain ⟨⟨t345,t346⟩,A900,H⟩:=H
         replace H : ((a_S.f t317 (rd l1 x88_4)).bind fun t347 => (if t347 = true then (if 0 ≤ (rd l1 x88_4) then (if (rd l1 x88_4) < (t317.length : Int) then (if t343 = t345 then (if (t344 != t346) = true then (some false) else ((b_d.f k4 t317 (rd l1 x88_4)).bind fun t349 => (if t349 = (rd t317 (rd l1 x88_4)) then (a_b.l2 k4 l0 l1 true l0 (l0.length : Int) x25_1 l1 (l1.length : Int) (wrap64 (x88_4 + 1)) t317) else (some false)))) else (some false)) else (none)) else (none)) else (if t343 = t345 then (if (t344 != t346) = true then (some false) else ((b_d.f k4 t317 (rd l1 x88_4)).bind fun t350 => (if t350 = 0 then (a_b.l2 k4 l0 l1 true l0 (l0.length : Int) x25_1 l1 (l1.length : Int) (wrap64 (x88_4 + 1)) t317) else (some false)))) else (some false)))) = some r:=H
         have A90:=a_a.mk A900
         clear A900
         replace H:=Option.bind_eq_some_iff.mp H
         obtain ⟨t347,A910,H⟩:=H
         replace H : (if t347 = true then (if 0 ≤ (rd l1 x88_4) then (if (rd l1 x88_4) < (t317.length : Int) then (if t343 = t345 then (if (t344 != t346) = true then (some false) else ((b_d.f k4 t317 (rd l1 x88_4)).bind fun t349 => (if t349 = (rd t317 (rd l1 x88_4)) then (a_b.l2 k4 l0 l1 true l0 (l0.length : Int) x25_1 l1 (l1.length : Int) (wrap64 (x88_4 + 1)) t317) else (some false)))) else (some false)) else (none)) else (none)) else (if t343 = t345 then (if (t344 != t346) = true then (some false) else ((b_d.f k4 t317 (rd l1 x88_4)).bind fun t350 => (if t350 = 0 then (a_b.l2 k4 l0 l1 true l0 (l0.length : Int) x25_1 l1 (l1.length : Int) (wrap64 (x88_4 + 1)) t317) else (some false)))) else (some false))) = some r:=H
         have A91:=a_a.mk A910
         clear A910
         by_cases c92 : t347 = true
         rotate_left
         ·replace c92:=Bool.eq_false_iff.mpr c92
          subst c92
          have H1 : (if t343 = t345 then (if (t344 != t346) = true then (some false) else ((b_d.f k4 t317 (rd l1 x88_4)).bind fun t350 => (if t350 = 0 then (a_b.l2 k4 l0 l1 true l0 (l0.length : Int) x25_1 l1 (l1.length : Int) (wrap64 (x88_4 + 1)) t317) else (some false)))) else (some false)) = some r:=by rw [if_neg (show ¬ (false = true) by decide)] at H;exact H
          clear H
          have H:=H1
          clear H1
          by_cases c137 : t343 = t345
          rotate_left
          ·rw [if_neg c137] at H
           have c137b0 : (t343 == t345) = false:=beq_eq_false_iff_ne.mpr c137
           have c137b1 : (t343 != t345) = true:=bne_iff_ne.mpr c137
           obtain rfl:=Option.some.inj H
           have p342 : 0 ≤ (x88_4 : Int):=of_decide_eq_true (by first|(with_reducible assumption)|assumption)
           have q342 : x88_4 < (l1.length : Int):=of_decide_eq_true (by first|(with_reducible assumption)|assumption)
           obtain ⟨ad342,e342,b_e⟩:=Kd.b_w HR1.out x88_4 p342 q342
           cases e342
           replace b_e:=(HB.out.cell (World.block_lt_of_cell? w _ b_e)).trans b_e
           replace p342:=eq_true p342
           replace q342:=eq_true q342
           have k_T:=a_3.out
           have k_U:=a_Z.out
           have k_V:=b_c.out
           have k_W:=b_b.out
           have i_Z : wr.cell? ⟨a_R,0,none⟩ = some (.slice Ao27 t317.length co27):=(a_j a_x.out 0).trans rfl
           have i_0:=a_k a_x.out 0
           go_wp2_with (first|((with_reducible refine a_B (f:=20) rfl ?_);refine b_f (some 98) rfl rfl Try.func20 (by kernel_rfl) rfl #[.agg #[.slice Ao27 t317.length co27],.int .i64 (rd l1 x88_4)] rfl (by (try simp only [List.map_toArray,List.map_cons,List.map_nil]);first|done|rfl|(simp only [List.length_drop,List.length_take];rfl)) ?_;(with_reducible refine (b_k.calls k4 _ _ t317 (rd l1 x88_4) t343 t344 _ ?side1 ?side2 A88.out).mono ?_);(case side1 => repeat (first|exact (Kd.a_r a_n.out).2.2|(with_reducible refine Kd.a_M ?_ _)|(with_reducible refine Kd.a_N ?_ _)|(with_reducible refine Kd.a_T ?_)));(case side2 => exact (Kd.a_r a_n.out).2.1);rintro e w172 ⟨rfl,hb⟩;refine ⟨_,rfl,?_⟩;replace a_n:=a_a.mk (Kd.a_y (rup_ a_n.out) hb);replace a_F:=a_a.mk (Kd.a_y (rup_ a_F.out) hb);replace a_C:=a_a.mk (a_e (bup_ a_C.out) hb);replace a_x:=a_a.mk (a_e (bup_ a_x.out) hb);replace a_I:=a_a.mk (a_e (bup_ a_I.out) hb);replace HB:=a_a.mk (a_i (by repeat (first|(with_reducible first|exact HB.out|apply a_f|apply a_d|apply a_g|refine a_c ?_ a_P.out|refine a_c ?_ a_X.out|refine a_c ?_ a_Y.out)|exact HB.out)) hb);(try clear hb);(try clear hb2);(try clear hk);(try clear hi);have i_1 : w172.cell? ⟨a_R,0,none⟩ = some (.slice Ao27 t317.length co27):=(a_j a_x.out 0).trans rfl;have i_2:=a_k a_x.out 0)|((with_reducible refine a_B (f:=21) rfl ?_);refine b_f (some 105) rfl rfl Try.func21 (by kernel_rfl) rfl #[.agg #[.slice Ao27 t317.length co27],.int .i64 (rd l1 x88_4)] rfl (by (try simp only [List.map_toArray,List.map_cons,List.map_nil]);first|done|rfl|(simp only [List.length_drop,List.length_take];rfl)) ?_;(with_reducible refine (a_l.calls k4 _ _ t317 (rd l1 x88_4) t345 t346 _ ?side1 ?side2 A90.out).mono ?_);(case side1 => repeat (first|exact (Kd.a_r a_n.out).2.2|(with_reducible refine Kd.a_M ?_ _)|(with_reducible refine Kd.a_N ?_ _)|(with_reducible refine Kd.a_T ?_)));(case side2 => exact (Kd.a_r a_n.out).2.1);rintro e w174 ⟨rfl,hb⟩;refine ⟨_,rfl,?_⟩;replace a_n:=a_a.mk (Kd.a_y (rup_ a_n.out) hb);replace a_F:=a_a.mk (Kd.a_y (rup_ a_F.out) hb);replace a_C:=a_a.mk (a_e (bup_ a_C.out) hb);replace a_x:=a_a.mk (a_e (bup_ a_x.out) hb);replace a_I:=a_a.mk (a_e (bup_ a_I.out) hb);replace HB:=a_a.mk (a_i (by repeat (first|(with_reducible first|exact HB.out|apply a_f|apply a_d|apply a_g|refine a_c ?_ a_P.out|refine a_c ?_ a_X.out|refine a_c ?_ a_Y.out)|exact HB.out)) hb);(try clear hb);(try clear hb2);(try clear hk);(try clear hi);have i_3 : w174.cell? ⟨a_R,0,none⟩ = some (.slice Ao27 t317.length co27):=(a_j a_x.out 0).trans rfl;have i_4:=a_k a_x.out 0)|((with_reducible refine a_B (f:=22) rfl ?_);refine b_f (some 110) rfl rfl Try.func22 (by kernel_rfl) rfl #[.agg #[.slice Ao27 t317.length co27],.int .i64 (rd l1 x88_4)] rfl (by (try simp only [List.map_toArray,List.map_cons,List.map_nil]);first|done|rfl|(simp only [List.length_drop,List.length_take];rfl)) ?_;(with_reducible refine (a_S.calls _ _ t317 (rd l1 x88_4) false _ ?side1 ?side2 A91.out).mono ?_);(case side1 => repeat (first|exact (Kd.a_r a_n.out).2.2|(with_reducible refine Kd.a_M ?_ _)|(with_reducible refine Kd.a_N ?_ _)|(with_reducible refine Kd.a_T ?_)));(case side2 => exact (Kd.a_r a_n.out).2.1);rintro e w176 ⟨rfl,hb⟩;refine ⟨_,rfl,?_⟩;replace a_n:=a_a.mk (Kd.a_y (rup_ a_n.out) hb);replace a_F:=a_a.mk (Kd.a_y (rup_ a_F.out) hb);replace a_C:=a_a.mk (a_e (bup_ a_C.out) hb);replace a_x:=a_a.mk (a_e (bup_ a_x.out) hb);replace a_I:=a_a.mk (a_e (bup_ a_I.out) hb);replace HB:=a_a.mk (a_i (by repeat (first|(with_reducible first|exact HB.out|apply a_f|apply a_d|apply a_g|refine a_c ?_ a_P.out|refine a_c ?_ a_X.out|refine a_c ?_ a_Y.out)|exact HB.out)) hb);(try clear hb);(try clear hb2);(try clear hk);(try clear hi)))
           go_ret
           exact ⟨by first|rfl|(simp [a_z,a_A] <;> rfl)|(simp [*, a_z,a_A] <;> rfl),by repeat (first|(with_reducible first|exact HB.out|apply a_f|apply a_d|apply a_g|refine a_c ?_ a_P.out|refine a_c ?_ a_X.out|refine a_c ?_ a_Y.out)|exact HB.out)⟩
          rw [if_pos c137] at H
          have c137b0 : (t343 == t345) = true:=beq_iff_eq.mpr c137
          have c137b1 : (t343 != t345) = false:=bne_eq_false_iff_eq.mpr c137
          clear c137
          by_cases c138 : (t344 != t346) = true
          ·rw [if_pos c138] at H
           have c138b0 : (t344 != t346) = true:=c138
           (try (have c138b1 : decide (t344 = t346) = false:=by simpa using c138))
           (try (have c138b2 : (t344 == t346) = false:=by simpa using c138))
           (try (have c138b3 : ¬ (t344 = t346):=by simpa using c138))
           clear c138
           obtain rfl:=Option.some.inj H
           have p342 : 0 ≤ (x88_4 : Int):=of_decide_eq_true (by first|(with_reducible assumption)|assumption)
           have q342 : x88_4 < (l1.length : Int):=of_decide_eq_true (by first|(with_reducible assumption)|assumption)
           obtain ⟨ad342,e342,b_e⟩:=Kd.b_w HR1.out x88_4 p342 q342
           cases e342
           replace b_e:=(HB.out.cell (World.block_lt_of_cell? w _ b_e)).trans b_e
           replace p342:=eq_true p342
           replace q342:=eq_true q342
           have k_X:=a_3.out
           have k_Y:=a_Z.out
           have k_Z:=b_c.out
           have k_0:=b_b.out
           have i_5 : wr.cell? ⟨a_R,0,none⟩ = some (.slice Ao27 t317.length co27):=(a_j a_x.out 0).trans rfl
           have i_6:=a_k a_x.out 0
           go_wp2_with (first|((with_reducible refine a_B (f:=20) rfl ?_);refine b_f (some 98) rfl rfl Try.func20 (by kernel_rfl) rfl #[.agg #[.slice Ao27 t317.length co27],.int .i64 (rd l1 x88_4)] rfl (by (try simp only [List.map_toArray,List.map_cons,List.map_nil]);first|done|rfl|(simp only [List.length_drop,List.length_take];rfl)) ?_;(with_reducible refine (b_k.calls k4 _ _ t317 (rd l1 x88_4) t343 t344 _ ?side1 ?side2 A88.out).mono ?_);(case side1 => repeat (first|exact (Kd.a_r a_n.out).2.2|(with_reducible refine Kd.a_M ?_ _)|(with_reducible refine Kd.a_N ?_ _)|(with_reducible refine Kd.a_T ?_)));(case side2 => exact (Kd.a_r a_n.out).2.1);rintro e w142 ⟨rfl,hb⟩;refine ⟨_,rfl,?_⟩;replace a_n:=a_a.mk (Kd.a_y (rup_ a_n.out) hb);replace a_F:=a_a.mk (Kd.a_y (rup_ a_F.out) hb);replace a_C:=a_a.mk (a_e (bup_ a_C.out) hb);replace a_x:=a_a.mk (a_e (bup_ a_x.out) hb);replace a_I:=a_a.mk (a_e (bup_ a_I.out) hb);replace HB:=a_a.mk (a_i (by repeat (first|(with_reducible first|exact HB.out|apply a_f|apply a_d|apply a_g|refine a_c ?_ a_P.out|refine a_c ?_ a_X.out|refine a_c ?_ a_Y.out)|exact HB.out)) hb);(try clear hb);(try clear hb2);(try clear hk);(try clear hi);have i_7 : w142.cell? ⟨a_R,0,none⟩ = some (.slice Ao27 t317.length co27):=(a_j a_x.out 0).trans rfl;have i_8:=a_k a_x.out 0)|((with_reducible refine a_B (f:=21) rfl ?_);refine b_f (some 105) rfl rfl Try.func21 (by kernel_rfl) rfl #[.agg #[.slice Ao27 t317.length co27],.int .i64 (rd l1 x88_4)] rfl (by (try simp only [List.map_toArray,List.map_cons,List.map_nil]);first|done|rfl|(simp only [List.length_drop,List.length_take];rfl)) ?_;(with_reducible refine (a_l.calls k4 _ _ t317 (rd l1 x88_4) t345 t346 _ ?side1 ?side2 A90.out).mono ?_);(case side1 => repeat (first|exact (Kd.a_r a_n.out).2.2|(with_reducible refine Kd.a_M ?_ _)|(with_reducible refine Kd.a_N ?_ _)|(with_reducible refine Kd.a_T ?_)));(case side2 => exact (Kd.a_r a_n.out).2.1);rintro e w144 ⟨rfl,hb⟩;refine ⟨_,rfl,?_⟩;replace a_n:=a_a.mk (Kd.a_y (rup_ a_n.out) hb);replace a_F:=a_a.mk (Kd.a_y (rup_ a_F.out) hb);replace a_C:=a_a.mk (a_e (bup_ a_C.out) hb);replace a_x:=a_a.mk (a_e (bup_ a_x.out) hb);replace a_I:=a_a.mk (a_e (bup_ a_I.out) hb);replace HB:=a_a.mk (a_i (by repeat (first|(with_reducible first|exact HB.out|apply a_f|apply a_d|apply a_g|refine a_c ?_ a_P.out|refine a_c ?_ a_X.out|refine a_c ?_ a_Y.out)|exact HB.out)) hb);(try clear hb);(try clear hb2);(try clear hk);(try clear hi);have i_9 : w144.cell? ⟨a_R,0,none⟩ = some (.slice Ao27 t317.length co27):=(a_j a_x.out 0).trans rfl;have j_a:=a_k a_x.out 0)|((with_reducible refine a_B (f:=22) rfl ?_);refine b_f (some 110) rfl rfl Try.func22 (by kernel_rfl) rfl #[.agg #[.slice Ao27 t317.length co27],.int .i64 (rd l1 x88_4)] rfl (by (try simp only [List.map_toArray,List.map_cons,List.map_nil]);first|done|rfl|(simp only [List.length_drop,List.length_take];rfl)) ?_;(with_reducible refine (a_S.calls _ _ t317 (rd l1 x88_4) false _ ?side1 ?side2 A91.out).mono ?_);(case side1 => repeat (first|exact (Kd.a_r a_n.out).2.2|(with_reducible refine Kd.a_M ?_ _)|(with_reducible refine Kd.a_N ?_ _)|(with_reducible refine Kd.a_T ?_)));(case side2 => exact (Kd.a_r a_n.out).2.1);rintro e w146 ⟨rfl,hb⟩;refine ⟨_,rfl,?_⟩;replace a_n:=a_a.mk (Kd.a_y (rup_ a_n.out) hb);replace a_F:=a_a.mk (Kd.a_y (rup_ a_F.out) hb);replace a_C:=a_a.mk (a_e (bup_ a_C.out) hb);replace a_x:=a_a.mk (a_e (bup_ a_x.out) hb);replace a_I:=a_a.mk (a_e (bup_ a_I.out) hb);replace HB:=a_a.mk (a_i (by repeat (first|(with_reducible first|exact HB.out|apply a_f|apply a_d|apply a_g|refine a_c ?_ a_P.out|refine a_c ?_ a_X.out|refine a_c ?_ a_Y.out)|exact HB.out)) hb);(try clear hb);(try clear hb2);(try clear hk);(try clear hi)))
           go_ret
           exact ⟨by first|rfl|(simp [a_z,a_A] <;> rfl)|(simp [*, a_z,a_A] <;> rfl),by repeat (first|(with_reducible first|exact HB.out|apply a_f|apply a_d|apply a_g|refine a_c ?_ a_P.out|refine a_c ?_ a_X.out|refine a_c ?_ a_Y.out)|exact HB.out)⟩
          rw [if_neg c138] at H
          have c138b0 : (t344 != t346) = false:=by simpa using c138
          (try (have c138b1 : decide (t344 = t346) = true:=by simpa using c138))
          (try (have c138b2 : (t344 == t346) = true:=by simpa using c138))
          clear c138
          replace H:=Option.bind_eq_some_iff.mp H
          obtain ⟨t350,A1470,H⟩:=H
          replace H : (if t350 = 0 then (a_b.l2 k4 l0 l1 true l0 (l0.length : Int) x25_1 l1 (l1.length : Int) (wrap64 (x88_4 + 1)) t317) else (some false)) = some r:=H
          have A147:=a_a.mk A1470
          clear A1470
          by_cases c148 : t350 = 0
          rotate_left
          ·rw [if_neg c148] at H
           have c148b0 : (t350 == 0) = false:=beq_eq_false_iff_ne.mpr c148
           have c148b1 : (t350 != 0) = true:=bne_iff_ne.mpr c148
           obtain rfl:=Option.some.inj H
           have p342 : 0 ≤ (x88_4 : Int):=of_decide_eq_true (by first|(with_reducible assumption)|assumption)
           have q342 : x88_4 < (l1.length : Int):=of_decide_eq_true (by first|(with_reducible assumption)|assumption)
           obtain ⟨ad342,e342,b_e⟩:=Kd.b_w HR1.out x88_4 p342 q342
           cases e342
           replace b_e:=(HB.out.cell (World.block_lt_of_cell? w _ b_e)).trans b_e
           replace p342:=eq_true p342
           replace q342:=eq_true q342
           have k_1:=a_3.out
           have k_2:=a_Z.out
           have k_3:=b_c.out
           have k_4:=b_b.out
           have j_b : wr.cell? ⟨a_R,0,none⟩ = some (.slice Ao27 t317.length co27):=(a_j a_x.out 0).trans rfl
           have j_c:=a_k a_x.out 0
           go_wp2_with (first|((with_reducible refine a_B (f:=20) rfl ?_);refine b_f (some 98) rfl rfl Try.func20 (by kernel_rfl) rfl #[.agg #[.slice Ao27 t317.length co27],.int .i64 (rd l1 x88_4)] rfl (by (try simp only [List.map_toArray,List.map_cons,List.map_nil]);first|done|rfl|(simp only [List.length_drop,List.length_take];rfl)) ?_;(with_reducible refine (b_k.calls k4 _ _ t317 (rd l1 x88_4) t343 t344 _ ?side1 ?side2 A88.out).mono ?_);(case side1 => repeat (first|exact (Kd.a_r a_n.out).2.2|(with_reducible refine Kd.a_M ?_ _)|(with_reducible refine Kd.a_N ?_ _)|(with_reducible refine Kd.a_T ?_)));(case side2 => exact (Kd.a_r a_n.out).2.1);rintro e w162 ⟨rfl,hb⟩;refine ⟨_,rfl,?_⟩;replace a_n:=a_a.mk (Kd.a_y (rup_ a_n.out) hb);replace a_F:=a_a.mk (Kd.a_y (rup_ a_F.out) hb);replace a_C:=a_a.mk (a_e (bup_ a_C.out) hb);replace a_x:=a_a.mk (a_e (bup_ a_x.out) hb);replace a_I:=a_a.mk (a_e (bup_ a_I.out) hb);replace HB:=a_a.mk (a_i (by repeat (first|(with_reducible first|exact HB.out|apply a_f|apply a_d|apply a_g|refine a_c ?_ a_P.out|refine a_c ?_ a_X.out|refine a_c ?_ a_Y.out)|exact HB.out)) hb);(try clear hb);(try clear hb2);(try clear hk);(try clear hi);have j_d : w162.cell? ⟨a_R,0,none⟩ = some (.slice Ao27 t317.length co27):=(a_j a_x.out 0).trans rfl;have j_e:=a_k a_x.out 0)|((with_reducible refine a_B (f:=21) rfl ?_);refine b_f (some 105) rfl rfl Try.func21 (by kernel_rfl) rfl #[.agg #[.slice Ao27 t317.length co27],.int .i64 (rd l1 x88_4)] rfl (by (try simp only [List.map_toArray,List.map_cons,List.map_nil]);first|done|rfl|(simp only [List.length_drop,List.length_take];rfl)) ?_;(with_reducible refine (a_l.calls k4 _ _ t317 (rd l1 x88_4) t345 t346 _ ?side1 ?side2 A90.out).mono ?_);(case side1 => repeat (first|exact (Kd.a_r a_n.out).2.2|(with_reducible refine Kd.a_M ?_ _)|(with_reducible refine Kd.a_N ?_ _)|(with_reducible refine Kd.a_T ?_)));(case side2 => exact (Kd.a_r a_n.out).2.1);rintro e w164 ⟨rfl,hb⟩;refine ⟨_,rfl,?_⟩;replace a_n:=a_a.mk (Kd.a_y (rup_ a_n.out) hb);replace a_F:=a_a.mk (Kd.a_y (rup_ a_F.out) hb);replace a_C:=a_a.mk (a_e (bup_ a_C.out) hb);replace a_x:=a_a.mk (a_e (bup_ a_x.out) hb);replace a_I:=a_a.mk (a_e (bup_ a_I.out) hb);replace HB:=a_a.mk (a_i (by repeat (first|(with_reducible first|exact HB.out|apply a_f|apply a_d|apply a_g|refine a_c ?_ a_P.out|refine a_c ?_ a_X.out|refine a_c ?_ a_Y.out)|exact HB.out)) hb);(try clear hb);(try clear hb2);(try clear hk);(try clear hi);have j_f : w164.cell? ⟨a_R,0,none⟩ = some (.slice Ao27 t317.length co27):=(a_j a_x.out 0).trans rfl;have j_g:=a_k a_x.out 0)|((with_reducible refine a_B (f:=22) rfl ?_);refine b_f (some 110) rfl rfl Try.func22 (by kernel_rfl) rfl #[.agg #[.slice Ao27 t317.length co27],.int .i64 (rd l1 x88_4)] rfl (by (try simp only [List.map_toArray,List.map_cons,List.map_nil]);first|done|rfl|(simp only [List.length_drop,List.length_take];rfl)) ?_;(with_reducible refine (a_S.calls _ _ t317 (rd l1 x88_4) false _ ?side1 ?side2 A91.out).mono ?_);(case side1 => repeat (first|exact (Kd.a_r a_n.out).2.2|(with_reducible refine Kd.a_M ?_ _)|(with_reducible refine Kd.a_N ?_ _)|(with_reducible refine Kd.a_T ?_)));(case side2 => exact (Kd.a_r a_n.out).2.1);rintro e w166 ⟨rfl,hb⟩;refine ⟨_,rfl,?_⟩;replace a_n:=a_a.mk (Kd.a_y (rup_ a_n.out) hb);replace a_F:=a_a.mk (Kd.a_y (rup_ a_F.out) hb);replace a_C:=a_a.mk (a_e (bup_ a_C.out) hb);replace a_x:=a_a.mk (a_e (bup_ a_x.out) hb);replace a_I:=a_a.mk (a_e (bup_ a_I.out) hb);replace HB:=a_a.mk (a_i (by repeat (first|(with_reducible first|exact HB.out|apply a_f|apply a_d|apply a_g|refine a_c ?_ a_P.out|refine a_c ?_ a_X.out|refine a_c ?_ a_Y.out)|exact HB.out)) hb);(try clear hb);(try clear hb2);(try clear hk);(try clear hi);have j_h : w166.cell? ⟨a_R,0,none⟩ = some (.slice Ao27 t317.length co27):=(a_j a_x.out 0).trans rfl;have j_i:=a_k a_x.out 0)|(go_at_call 23;(with_reducible refine (b_d.calls k4 _ _ t317 (rd l1 x88_4) t350 _ ?side1 ?side2 A147.out).mono ?_);(case side1 => repeat (first|exact (Kd.a_r a_n.out).2.2|(with_reducible refine Kd.a_M ?_ _)|(with_reducible refine Kd.a_N ?_ _)|(with_reducible refine Kd.a_T ?_)));(case side2 => exact (Kd.a_r a_n.out).2.1);rintro e w168 ⟨rfl,hb⟩;replace a_n:=a_a.mk (Kd.a_y (rup_ a_n.out) hb);replace a_F:=a_a.mk (Kd.a_y (rup_ a_F.out) hb);replace a_C:=a_a.mk (a_e (bup_ a_C.out) hb);replace a_x:=a_a.mk (a_e (bup_ a_x.out) hb);replace a_I:=a_a.mk (a_e (bup_ a_I.out) hb);replace HB:=a_a.mk (a_i (by repeat (first|(with_reducible first|exact HB.out|apply a_f|apply a_d|apply a_g|refine a_c ?_ a_P.out|refine a_c ?_ a_X.out|refine a_c ?_ a_Y.out)|exact HB.out)) hb);(try clear hb);(try clear hb2);(try clear hk);(try clear hi)))
           go_ret
           exact ⟨by first|rfl|(simp [a_z,a_A] <;> rfl)|(simp [*, a_z,a_A] <;> rfl),by repeat (first|(with_reducible first|exact HB.out|apply a_f|apply a_d|apply a_g|refine a_c ?_ a_P.out|refine a_c ?_ a_X.out|refine a_c ?_ a_Y.out)|exact HB.out)⟩
          rw [if_pos c148] at H
          have c148b0 : (t350 == 0) = true:=beq_iff_eq.mpr c148
          have c148b1 : (t350 != 0) = false:=bne_eq_false_iff_eq.mpr c148
          clear c148
          have H':=a_a.mk H
          clear H
          have p342 : 0 ≤ (x88_4 : Int):=of_decide_eq_true (by first|(with_reducible assumption)|assumption)
          have q342 : x88_4 < (l1.length : Int):=of_decide_eq_true (by first|(with_reducible assumption)|assumption)
          obtain ⟨ad342,e342,b_e⟩:=Kd.b_w HR1.out x88_4 p342 q342
          cases e342
          replace b_e:=(HB.out.cell (World.block_lt_of_cell? w _ b_e)).trans b_e
          replace p342:=eq_true p342
          replace q342:=eq_true q342
          have k_5:=a_3.out
          have k_6:=a_Z.out
          have k_7:=b_c.out
          have k_8:=b_b.out
          have j_j : wr.cell? ⟨a_R,0,none⟩ = some (.slice Ao27 t317.length co27):=(a_j a_x.out 0).trans rfl
          have j_k:=a_k a_x.out 0
          go_wp2_with (first|((with_reducible refine a_B (f:=20) rfl ?_);refine b_f (some 98) rfl rfl Try.func20 (by kernel_rfl) rfl #[.agg #[.slice Ao27 t317.length co27],.int .i64 (rd l1 x88_4)] rfl (by (try simp only [List.map_toArray,List.map_cons,List.map_nil]);first|done|rfl|(simp only [List.length_drop,List.length_take];rfl)) ?_;(with_reducible refine (b_k.calls k4 _ _ t317 (rd l1 x88_4) t343 t344 _ ?side1 ?side2 A88.out).mono ?_);(case side1 => repeat (first|exact (Kd.a_r a_n.out).2.2|(with_reducible refine Kd.a_M ?_ _)|(with_reducible refine Kd.a_N ?_ _)|(with_reducible refine Kd.a_T ?_)));(case side2 => exact (Kd.a_r a_n.out).2.1);rintro e w152 ⟨rfl,hb⟩;refine ⟨_,rfl,?_⟩;replace a_n:=a_a.mk (Kd.a_y (rup_ a_n.out) hb);replace a_F:=a_a.mk (Kd.a_y (rup_ a_F.out) hb);replace a_C:=a_a.mk (a_e (bup_ a_C.out) hb);replace a_x:=a_a.mk (a_e (bup_ a_x.out) hb);replace a_I:=a_a.mk (a_e (bup_ a_I.out) hb);replace HB:=a_a.mk (a_i (by repeat (first|(with_reducible first|exact HB.out|apply a_f|apply a_d|apply a_g|refine a_c ?_ a_P.out|refine a_c ?_ a_X.out|refine a_c ?_ a_Y.out)|exact HB.out)) hb);(try clear hb);(try clear hb2);(try clear hk);(try clear hi);have j_l : w152.cell? ⟨a_R,0,none⟩ = some (.slice Ao27 t317.length co27):=(a_j a_x.out 0).trans rfl;have j_m:=a_k a_x.out 0)|((with_reducible refine a_B (f:=21) rfl ?_);refine b_f (some 105) rfl rfl Try.func21 (by kernel_rfl) rfl #[.agg #[.slice Ao27 t317.length co27],.int .i64 (rd l1 x88_4)] rfl (by (try simp only [List.map_toArray,List.map_cons,List.map_nil]);first|done|rfl|(simp only [List.length_drop,List.length_take];rfl)) ?_;(with_reducible refine (a_l.calls k4 _ _ t317 (rd l1 x88_4) t345 t346 _ ?side1 ?side2 A90.out).mono ?_);(case side1 => repeat (first|exact (Kd.a_r a_n.out).2.2|(with_reducible refine Kd.a_M ?_ _)|(with_reducible refine Kd.a_N ?_ _)|(with_reducible refine Kd.a_T ?_)));(case side2 => exact (Kd.a_r a_n.out).2.1);rintro e w154 ⟨rfl,hb⟩;refine ⟨_,rfl,?_⟩;replace a_n:=a_a.mk (Kd.a_y (rup_ a_n.out) hb);replace a_F:=a_a.mk (Kd.a_y (rup_ a_F.out) hb);replace a_C:=a_a.mk (a_e (bup_ a_C.out) hb);replace a_x:=a_a.mk (a_e (bup_ a_x.out) hb);replace a_I:=a_a.mk (a_e (bup_ a_I.out) hb);replace HB:=a_a.mk (a_i (by repeat (first|(with_reducible first|exact HB.out|apply a_f|apply a_d|apply a_g|refine a_c ?_ a_P.out|refine a_c ?_ a_X.out|refine a_c ?_ a_Y.out)|exact HB.out)) hb);(try clear hb);(try clear hb2);(try clear hk);(try clear hi);have j_n : w154.cell? ⟨a_R,0,none⟩ = some (.slice Ao27 t317.length co27):=(a_j a_x.out 0).trans rfl;have j_o:=a_k a_x.out 0)|((with_reducible refine a_B (f:=22) rfl ?_);refine b_f (some 110) rfl rfl Try.func22 (by kernel_rfl) rfl #[.agg #[.slice Ao27 t317.length co27],.int .i64 (rd l1 x88_4)] rfl (by (try simp only [List.map_toArray,List.map_cons,List.map_nil]);first|done|rfl|(simp only [List.length_drop,List.length_take];rfl)) ?_;(with_reducible refine (a_S.calls _ _ t317 (rd l1 x88_4) false _ ?side1 ?side2 A91.out).mono ?_);(case side1 => repeat (first|exact (Kd.a_r a_n.out).2.2|(with_reducible refine Kd.a_M ?_ _)|(with_reducible refine Kd.a_N ?_ _)|(with_reducible refine Kd.a_T ?_)));(case side2 => exact (Kd.a_r a_n.out).2.1);rintro e w156 ⟨rfl,hb⟩;refine ⟨_,rfl,?_⟩;replace a_n:=a_a.mk (Kd.a_y (rup_ a_n.out) hb);replace a_F:=a_a.mk (Kd.a_y (rup_ a_F.out) hb);replace a_C:=a_a.mk (a_e (bup_ a_C.out) hb);replace a_x:=a_a.mk (a_e (bup_ a_x.out) hb);replace a_I:=a_a.mk (a_e (bup_ a_I.out) hb);replace HB:=a_a.mk (a_i (by repeat (first|(with_reducible first|exact HB.out|apply a_f|apply a_d|apply a_g|refine a_c ?_ a_P.out|refine a_c ?_ a_X.out|refine a_c ?_ a_Y.out)|exact HB.out)) hb);(try clear hb);(try clear hb2);(try clear hk);(try clear hi);have j_p : w156.cell? ⟨a_R,0,none⟩ = some (.slice Ao27 t317.length co27):=(a_j a_x.out 0).trans rfl;have j_q:=a_k a_x.out 0)|(go_at_call 23;(with_reducible refine (b_d.calls k4 _ _ t317 (rd l1 x88_4) t350 _ ?side1 ?side2 A147.out).mono ?_);(case side1 => repeat (first|exact (Kd.a_r a_n.out).2.2|(with_reducible refine Kd.a_M ?_ _)|(with_reducible refine Kd.a_N ?_ _)|(with_reducible refine Kd.a_T ?_)));(case side2 => exact (Kd.a_r a_n.out).2.1);rintro e w158 ⟨rfl,hb⟩;replace a_n:=a_a.mk (Kd.a_y (rup_ a_n.out) hb);replace a_F:=a_a.mk (Kd.a_y (rup_ a_F.out) hb);replace a_C:=a_a.mk (a_e (bup_ a_C.out) hb);replace a_x:=a_a.mk (a_e (bup_ a_x.out) hb);replace a_I:=a_a.mk (a_e (bup_ a_I.out) hb);replace HB:=a_a.mk (a_i (by repeat (first|(with_reducible first|exact HB.out|apply a_f|apply a_d|apply a_g|refine a_c ?_ a_P.out|refine a_c ?_ a_X.out|refine a_c ?_ a_Y.out)|exact HB.out)) hb);(try clear hb);(try clear hb2);(try clear hk);(try clear hi)))
          go_roundg k4
          case measure => have:=HK1.out;have:=HJ16.out;have:=HK3.out;have:=HK4.out;omega
          case rel => exact ⟨(wrap64 (x88_4 + 1)),(by first|rfl|(simp;done)|(simp [*];done)),H',⟨by have:=HK1.out;have:=HJ16.out;have:=HK3.out;have:=HK4.out;omega⟩,⟨by (with_reducible repeat (first|apply Kd.a_5|apply Kd.a_1|apply Kd.a_0));exact a_n.out⟩,⟨by (with_reducible repeat (first|apply Kd.a_5|apply Kd.a_1|apply Kd.a_0));exact a_F.out⟩,⟨by (with_reducible repeat (first|refine a_u ?_ _|refine a_t ?_|refine a_w ?_ _));exact a_C.out⟩,⟨by (with_reducible repeat (first|refine a_u ?_ _|refine a_t ?_|refine a_w ?_ _));exact a_x.out⟩,⟨by (with_reducible repeat (first|refine a_u ?_ _|refine a_t ?_|refine a_w ?_ _));exact a_I.out⟩,⟨by repeat (first|(with_reducible first|exact HB.out|apply a_f|apply a_d|apply a_g|refine a_c ?_ a_P.out|refine a_c ?_ a_X.out|refine a_c ?_ a_Y.out)|exact HB.out)⟩⟩
         subst c92
         have H1 : (if 0 ≤ (rd l1 x88_4) then (if (rd l1 x88_4) < (t317.length : Int) then (if t343 = t345 then (if (t344 != t346) = true then (some false) else ((b_d.f k4 t317 (rd l1 x88_4)).bind fun t349 => (if t349 = (rd t317 (rd l1 x88_4)) then (a_b.l2 k4 l0 l1 true l0 (l0.length : Int) x25_1 l1 (l1.length : Int) (wrap64 (x88_4 + 1)) t317) else (some false)))) else (some false)) else (none)) else (none)) = some r:=by rw [if_pos rfl] at H;exact H
         clear H
         have H:=H1
         clear H1
         by_cases c93 : 0 ≤ (rd l1 x88_4)
         rotate_left
         ·rw [if_neg c93] at H
          exact absurd H (by simp)
         rw [if_pos c93] at H
         have c93b0 : decide (0 ≤ (rd l1 x88_4)) = true:=decide_eq_true c93
         clear c93
         by_cases c94 : (rd l1 x88_4) < (t317.length : Int)
         rotate_left
         ·rw [if_neg c94] at H
          exact absurd H (by simp)
         rw [if_pos c94] at H
         have c94b0 : decide ((rd l1 x88_4) < (t317.length : Int)) = true:=decide_eq_true c94
         clear c94
         by_cases c95 : t343 = t345
         rotate_left
         ·rw [if_neg c95] at H
          have c95b0 : (t343 == t345) = false:=beq_eq_false_iff_ne.mpr c95
          have c95b1 : (t343 != t345) = true:=bne_iff_ne.mpr c95
          obtain rfl:=Option.some.inj H
          have p342 : 0 ≤ (x88_4 : Int):=of_decide_eq_true (by first|(with_reducible assumption)|assumption)
          have q342 : x88_4 < (l1.length : Int):=of_decide_eq_true (by first|(with_reducible assumption)|assumption)
          obtain ⟨ad342,e342,b_e⟩:=Kd.b_w HR1.out x88_4 p342 q342
          cases e342
          replace b_e:=(HB.out.cell (World.block_lt_of_cell? w _ b_e)).trans b_e
          replace p342:=eq_true p342
          replace q342:=eq_true q342
          have k_9:=a_3.out
          have l_a:=a_Z.out
          have l_b:=b_c.out
          have l_d:=b_b.out
          have j_r : wr.cell? ⟨a_R,0,none⟩ = some (.slice Ao27 t317.length co27):=(a_j a_x.out 0).trans rfl
          have j_s:=a_k a_x.out 0
          go_wp2_with (first|((with_reducible refine a_B (f:=20) rfl ?_);refine b_f (some 98) rfl rfl Try.func20 (by kernel_rfl) rfl #[.agg #[.slice Ao27 t317.length co27],.int .i64 (rd l1 x88_4)] rfl (by (try simp only [List.map_toArray,List.map_cons,List.map_nil]);first|done|rfl|(simp only [List.length_drop,List.length_take];rfl)) ?_;(with_reducible refine (b_k.calls k4 _ _ t317 (rd l1 x88_4) t343 t344 _ ?side1 ?side2 A88.out).mono ?_);(case side1 => repeat (first|exact (Kd.a_r a_n.out).2.2|(with_reducible refine Kd.a_M ?_ _)|(with_reducible refine Kd.a_N ?_ _)|(with_reducible refine Kd.a_T ?_)));(case side2 => exact (Kd.a_r a_n.out).2.1);rintro e w131 ⟨rfl,hb⟩;refine ⟨_,rfl,?_⟩;replace a_n:=a_a.mk (Kd.a_y (rup_ a_n.out) hb);replace a_F:=a_a.mk (Kd.a_y (rup_ a_F.out) hb);replace a_C:=a_a.mk (a_e (bup_ a_C.out) hb);replace a_x:=a_a.mk (a_e (bup_ a_x.out) hb);replace a_I:=a_a.mk (a_e (bup_ a_I.out) hb);replace HB:=a_a.mk (a_i (by repeat (first|(with_reducible first|exact HB.out|apply a_f|apply a_d|apply a_g|refine a_c ?_ a_P.out|refine a_c ?_ a_X.out|refine a_c ?_ a_Y.out)|exact HB.out)) hb);(try clear hb);(try clear hb2);(try clear hk);(try clear hi);have j_t : w131.cell? ⟨a_R,0,none⟩ = some (.slice Ao27 t317.length co27):=(a_j a_x.out 0).trans rfl;have j_u:=a_k a_x.out 0)|((with_reducible refine a_B (f:=21) rfl ?_);refine b_f (some 105) rfl rfl Try.func21 (by kernel_rfl) rfl #[.agg #[.slice Ao27 t317.length co27],.int .i64 (rd l1 x88_4)] rfl (by (try simp only [List.map_toArray,List.map_cons,List.map_nil]);first|done|rfl|(simp only [List.length_drop,List.length_take];rfl)) ?_;(with_reducible refine (a_l.calls k4 _ _ t317 (rd l1 x88_4) t345 t346 _ ?side1 ?side2 A90.out).mono ?_);(case side1 => repeat (first|exact (Kd.a_r a_n.out).2.2|(with_reducible refine Kd.a_M ?_ _)|(with_reducible refine Kd.a_N ?_ _)|(with_reducible refine Kd.a_T ?_)));(case side2 => exact (Kd.a_r a_n.out).2.1);rintro e w133 ⟨rfl,hb⟩;refine ⟨_,rfl,?_⟩;replace a_n:=a_a.mk (Kd.a_y (rup_ a_n.out) hb);replace a_F:=a_a.mk (Kd.a_y (rup_ a_F.out) hb);replace a_C:=a_a.mk (a_e (bup_ a_C.out) hb);replace a_x:=a_a.mk (a_e (bup_ a_x.out) hb);replace a_I:=a_a.mk (a_e (bup_ a_I.out) hb);replace HB:=a_a.mk (a_i (by repeat (first|(with_reducible first|exact HB.out|apply a_f|apply a_d|apply a_g|refine a_c ?_ a_P.out|refine a_c ?_ a_X.out|refine a_c ?_ a_Y.out)|exact HB.out)) hb);(try clear hb);(try clear hb2);(try clear hk);(try clear hi);have j_v : w133.cell? ⟨a_R,0,none⟩ = some (.slice Ao27 t317.length co27):=(a_j a_x.out 0).trans rfl;have j_w:=a_k a_x.out 0)|((with_reducible refine a_B (f:=22) rfl ?_);refine b_f (some 110) rfl rfl Try.func22 (by kernel_rfl) rfl #[.agg #[.slice Ao27 t317.length co27],.int .i64 (rd l1 x88_4)] rfl (by (try simp only [List.map_toArray,List.map_cons,List.map_nil]);first|done|rfl|(simp only [List.length_drop,List.length_take];rfl)) ?_;(with_reducible refine (a_S.calls _ _ t317 (rd l1 x88_4) true _ ?side1 ?side2 A91.out).mono ?_);(case side1 => repeat (first|exact (Kd.a_r a_n.out).2.2|(with_reducible refine Kd.a_M ?_ _)|(with_reducible refine Kd.a_N ?_ _)|(with_reducible refine Kd.a_T ?_)));(case side2 => exact (Kd.a_r a_n.out).2.1);rintro e w135 ⟨rfl,hb⟩;refine ⟨_,rfl,?_⟩;replace a_n:=a_a.mk (Kd.a_y (rup_ a_n.out) hb);replace a_F:=a_a.mk (Kd.a_y (rup_ a_F.out) hb);replace a_C:=a_a.mk (a_e (bup_ a_C.out) hb);replace a_x:=a_a.mk (a_e (bup_ a_x.out) hb);replace a_I:=a_a.mk (a_e (bup_ a_I.out) hb);replace HB:=a_a.mk (a_i (by repeat (first|(with_reducible first|exact HB.out|apply a_f|apply a_d|apply a_g|refine a_c ?_ a_P.out|refine a_c ?_ a_X.out|refine a_c ?_ a_Y.out)|exact HB.out)) hb);(try clear hb);(try clear hb2);(try clear hk);(try clear hi);have j_x : w135.cell? ⟨a_R,0,none⟩ = some (.slice Ao27 t317.length co27):=(a_j a_x.out 0).trans rfl;have j_y:=a_k a_x.out 0;have p348 : 0 ≤ ((rd l1 x88_4) : Int):=of_decide_eq_true (by first|(with_reducible assumption)|assumption);have q348 : (rd l1 x88_4) < (t317.length : Int):=of_decide_eq_true (by first|(with_reducible assumption)|assumption);obtain ⟨ad348,e348,f_k⟩:=Kd.b_w (Kd.a_r a_n.out).2.2 (rd l1 x88_4) p348 q348;cases e348;replace p348:=eq_true p348;replace q348:=eq_true q348))
          go_ret
          exact ⟨by first|rfl|(simp [a_z,a_A] <;> rfl)|(simp [*, a_z,a_A] <;> rfl),by repeat (first|(with_reducible first|exact HB.out|apply a_f|apply a_d|apply a_g|refine a_c ?_ a_P.out|refine a_c ?_ a_X.out|refine a_c ?_ a_Y.out)|exact HB.out)⟩
         rw [if_pos c95] at H
         have c95b0 : (t343 == t345) = true:=beq_iff_eq.mpr c95
         have c95b1 : (t343 != t345) = false:=bne_eq_false_iff_eq.mpr c95
         clear c95
         by_cases c96 : (t344 != t346) = true
         ·rw [if_pos c96] at H
          have c96b0 : (t344 != t346) = true:=c96
          (try (have c96b1 : decide (t344 = t346) = false:=by simpa using c96))
          (try (have c96b2 : (t344 == t346) = false:=by simpa using c96))
          (try (have c96b3 : ¬ (t344 = t346):=by simpa using c96))
          clear c96
          obtain rfl:=Option.some.inj H
          have p342 : 0 ≤ (x88_4 : Int):=of_decide_eq_true (by first|(with_reducible assumption)|assumption)
          have q342 : x88_4 < (l1.length : Int):=of_decide_eq_true (by first|(with_reducible assumption)|assumption)
          obtain ⟨ad342,e342,b_e⟩:=Kd.b_w HR1.out x88_4 p342 q342
          cases e342
          replace b_e:=(HB.out.cell (World.block_lt_of_cell? w _ b_e)).trans b_e
          replace p342:=eq_true p342
          replace q342:=eq_true q342
          have l_X:=a_3.out
          have l_Y:=a_Z.out
          have l_Z:=b_c.out
          have l_0:=b_b.out
          have k_v : wr.cell? ⟨a_R,0,none⟩ = some (.slice Ao27 t317.length co27):=(a_j a_x.out 0).trans rfl
          have k_w:=a_k a_x.out 0
          go_wp2_with (first|((with_reducible refine a_B (f:=20) rfl ?_);refine b_f (some 98) rfl rfl Try.func20 (by kernel_rfl) rfl #[.agg #[.slice Ao27 t317.length co27],.int .i64 (rd l1 x88_4)] rfl (by (try simp only [List.map_toArray,List.map_cons,List.map_nil]);first|done|rfl|(simp only [List.length_drop,List.length_take];rfl)) ?_;(with_reducible refine (b_k.calls k4 _ _ t317 (rd l1 x88_4) t343 t344 _ ?side1 ?side2 A88.out).mono ?_);(case side1 => repeat (first|exact (Kd.a_r a_n.out).2.2|(with_reducible refine Kd.a_M ?_ _)|(with_reducible refine Kd.a_N ?_ _)|(with_reducible refine Kd.a_T ?_)));(case side2 => exact (Kd.a_r a_n.out).2.1);rintro e w100 ⟨rfl,hb⟩;refine ⟨_,rfl,?_⟩;replace a_n:=a_a.mk (Kd.a_y (rup_ a_n.out) hb);replace a_F:=a_a.mk (Kd.a_y (rup_ a_F.out) hb);replace a_C:=a_a.mk (a_e (bup_ a_C.out) hb);replace a_x:=a_a.mk (a_e (bup_ a_x.out) hb);replace a_I:=a_a.mk (a_e (bup_ a_I.out) hb);replace HB:=a_a.mk (a_i (by repeat (first|(with_reducible first|exact HB.out|apply a_f|apply a_d|apply a_g|refine a_c ?_ a_P.out|refine a_c ?_ a_X.out|refine a_c ?_ a_Y.out)|exact HB.out)) hb);(try clear hb);(try clear hb2);(try clear hk);(try clear hi);have j_z : w100.cell? ⟨a_R,0,none⟩ = some (.slice Ao27 t317.length co27):=(a_j a_x.out 0).trans rfl;have j_A:=a_k a_x.out 0)|((with_reducible refine a_B (f:=21) rfl ?_);refine b_f (some 105) rfl rfl Try.func21 (by kernel_rfl) rfl #[.agg #[.slice Ao27 t317.length co27],.int .i64 (rd l1 x88_4)] rfl (by (try simp only [List.map_toArray,List.map_cons,List.map_nil]);first|done|rfl|(simp only [List.length_drop,List.length_take];rfl)) ?_;(with_reducible refine (a_l.calls k4 _ _ t317 (rd l1 x88_4) t345 t346 _ ?side1 ?side2 A90.out).mono ?_);(case side1 => repeat (first|exact (Kd.a_r a_n.out).2.2|(with_reducible refine Kd.a_M ?_ _)|(with_reducible refine Kd.a_N ?_ _)|(with_reducible refine Kd.a_T ?_)));(case side2 => exact (Kd.a_r a_n.out).2.1);rintro e w102 ⟨rfl,hb⟩;refine ⟨_,rfl,?_⟩;replace a_n:=a_a.mk (Kd.a_y (rup_ a_n.out) hb);replace a_F:=a_a.mk (Kd.a_y (rup_ a_F.out) hb);replace a_C:=a_a.mk (a_e (bup_ a_C.out) hb);replace a_x:=a_a.mk (a_e (bup_ a_x.out) hb);replace a_I:=a_a.mk (a_e (bup_ a_I.out) hb);replace HB:=a_a.mk (a_i (by repeat (first|(with_reducible first|exact HB.out|apply a_f|apply a_d|apply a_g|refine a_c ?_ a_P.out|refine a_c ?_ a_X.out|refine a_c ?_ a_Y.out)|exact HB.out)) hb);(try clear hb);(try clear hb2);(try clear hk);(try clear hi);have j_B : w102.cell? ⟨a_R,0,none⟩ = some (.slice Ao27 t317.length co27):=(a_j a_x.out 0).trans rfl;have j_C:=a_k a_x.out 0)|((with_reducible refine a_B (f:=22) rfl ?_);refine b_f (some 110) rfl rfl Try.func22 (by kernel_rfl) rfl #[.agg #[.slice Ao27 t317.length co27],.int .i64 (rd l1 x88_4)] rfl (by (try simp only [List.map_toArray,List.map_cons,List.map_nil]);first|done|rfl|(simp only [List.length_drop,List.length_take];rfl)) ?_;(with_reducible refine (a_S.calls _ _ t317 (rd l1 x88_4) true _ ?side1 ?side2 A91.out).mono ?_);(case side1 => repeat (first|exact (Kd.a_r a_n.out).2.2|(with_reducible refine Kd.a_M ?_ _)|(with_reducible refine Kd.a_N ?_ _)|(with_reducible refine Kd.a_T ?_)));(case side2 => exact (Kd.a_r a_n.out).2.1);rintro e w104 ⟨rfl,hb⟩;refine ⟨_,rfl,?_⟩;replace a_n:=a_a.mk (Kd.a_y (rup_ a_n.out) hb);replace a_F:=a_a.mk (Kd.a_y (rup_ a_F.out) hb);replace a_C:=a_a.mk (a_e (bup_ a_C.out) hb);replace a_x:=a_a.mk (a_e (bup_ a_x.out) hb);replace a_I:=a_a.mk (a_e (bup_ a_I.out) hb);replace HB:=a_a.mk (a_i (by repeat (first|(with_reducible first|exact HB.out|apply a_f|apply a_d|apply a_g|refine a_c ?_ a_P.out|refine a_c ?_ a_X.out|refine a_c ?_ a_Y.out)|exact HB.out)) hb);(try clear hb);(try clear hb2);(try clear hk);(try clear hi);have j_D : w104.cell? ⟨a_R,0,none⟩ = some (.slice Ao27 t317.length co27):=(a_j a_x.out 0).trans rfl;have j_E:=a_k a_x.out 0;have p348 : 0 ≤ ((rd l1 x88_4) : Int):=of_decide_eq_true (by first|(with_reducible assumption)|assumption);have q348 : (rd l1 x88_4) < (t317.length : Int):=of_decide_eq_true (by first|(with_reducible assumption)|assumption);obtain ⟨ad348,e348,f_k⟩:=Kd.b_w (Kd.a_r a_n.out).2.2 (rd l1 x88_4) p348 q348;cases e348;replace p348:=eq_true p348;replace q348:=eq_true q348))
          go_ret
          exact ⟨by first|rfl|(simp [a_z,a_A] <;> rfl)|(simp [*, a_z,a_A] <;> rfl),by repeat (first|(with_reducible first|exact HB.out|apply a_f|apply a_d|apply a_g|refine a_c ?_ a_P.out|refine a_c ?_ a_X.out|refine a_c ?_ a_Y.out)|exact HB.out)⟩
         rw [if_neg c96] at H
         have c96b0 : (t344 != t346) = false:=by simpa using c96
         (try (have c96b1 : decide (t344 = t346) = true:=by simpa using c96))
         (try (have c96b2 : (t344 == t346) = true:=by simpa using c96))
         clear c96
         replace H:=Option.bind_eq_some_iff.mp H
         obtain ⟨t349,A1060,H⟩:=H
         replace H : (if t349 = (rd t317 (rd l1 x88_4)) then (a_b.l2 k4 l0 l1 true l0 (l0.length : Int) x25_1 l1 (l1.length : Int) (wrap64 (x88_4 + 1)) t317) else (some false)) = some r:=H
         have A106:=a_a.mk A1060
         clear A1060
         by_cases c107 : t349 = (rd t317 (rd l1 x88_4))
         rotate_left
         ·rw [if_neg c107] at H
          have c107b0 : (t349 == (rd t317 (rd l1 x88_4))) = false:=beq_eq_false_iff_ne.mpr c107
          have c107b1 : (t349 != (rd t317 (rd l1 x88_4))) = true:=bne_iff_ne.mpr c107
          obtain rfl:=Option.some.inj H
          have p342 : 0 ≤ (x88_4 : Int):=of_decide_eq_true (by first|(with_reducible assumption)|assumption)
          have q342 : x88_4 < (l1.length : Int):=of_decide_eq_true (by first|(with_reducible assumption)|assumption)
          obtain ⟨ad342,e342,b_e⟩:=Kd.b_w HR1.out x88_4 p342 q342
          cases e342
          replace b_e:=(HB.out.cell (World.block_lt_of_cell? w _ b_e)).trans b_e
          replace p342:=eq_true p342
          replace q342:=eq_true q342
          have l_e:=a_3.out
          have l_f:=a_Z.out
          have l_g:=b_c.out
          have l_h:=b_b.out
          have j_F : wr.cell? ⟨a_R,0,none⟩ = some (.slice Ao27 t317.length co27):=(a_j a_x.out 0).trans rfl
          have j_G:=a_k a_x.out 0
          go_wp2_with (first|((with_reducible refine a_B (f:=20) rfl ?_);refine b_f (some 98) rfl rfl Try.func20 (by kernel_rfl) rfl #[.agg #[.slice Ao27 t317.length co27],.int .i64 (rd l1 x88_4)] rfl (by (try simp only [List.map_toArray,List.map_cons,List.map_nil]);first|done|rfl|(simp only [List.length_drop,List.length_take];rfl)) ?_;(with_reducible refine (b_k.calls k4 _ _ t317 (rd l1 x88_4) t343 t344 _ ?side1 ?side2 A88.out).mono ?_);(case side1 => repeat (first|exact (Kd.a_r a_n.out).2.2|(with_reducible refine Kd.a_M ?_ _)|(with_reducible refine Kd.a_N ?_ _)|(with_reducible refine Kd.a_T ?_)));(case side2 => exact (Kd.a_r a_n.out).2.1);rintro e w121 ⟨rfl,hb⟩;refine ⟨_,rfl,?_⟩;replace a_n:=a_a.mk (Kd.a_y (rup_ a_n.out) hb);replace a_F:=a_a.mk (Kd.a_y (rup_ a_F.out) hb);replace a_C:=a_a.mk (a_e (bup_ a_C.out) hb);replace a_x:=a_a.mk (a_e (bup_ a_x.out) hb);replace a_I:=a_a.mk (a_e (bup_ a_I.out) hb);replace HB:=a_a.mk (a_i (by repeat (first|(with_reducible first|exact HB.out|apply a_f|apply a_d|apply a_g|refine a_c ?_ a_P.out|refine a_c ?_ a_X.out|refine a_c ?_ a_Y.out)|exact HB.out)) hb);(try clear hb);(try clear hb2);(try clear hk);(try clear hi);have j_H : w121.cell? ⟨a_R,0,none⟩ = some (.slice Ao27 t317.length co27):=(a_j a_x.out 0).trans rfl;have j_I:=a_k a_x.out 0)|((with_reducible refine a_B (f:=21) rfl ?_);refine b_f (some 105) rfl rfl Try.func21 (by kernel_rfl) rfl #[.agg #[.slice Ao27 t317.length co27],.int .i64 (rd l1 x88_4)] rfl (by (try simp only [List.map_toArray,List.map_cons,List.map_nil]);first|done|rfl|(simp only [List.length_drop,List.length_take];rfl)) ?_;(with_reducible refine (a_l.calls k4 _ _ t317 (rd l1 x88_4) t345 t346 _ ?side1 ?side2 A90.out).mono ?_);(case side1 => repeat (first|exact (Kd.a_r a_n.out).2.2|(with_reducible refine Kd.a_M ?_ _)|(with_reducible refine Kd.a_N ?_ _)|(with_reducible refine Kd.a_T ?_)));(case side2 => exact (Kd.a_r a_n.out).2.1);rintro e w123 ⟨rfl,hb⟩;refine ⟨_,rfl,?_⟩;replace a_n:=a_a.mk (Kd.a_y (rup_ a_n.out) hb);replace a_F:=a_a.mk (Kd.a_y (rup_ a_F.out) hb);replace a_C:=a_a.mk (a_e (bup_ a_C.out) hb);replace a_x:=a_a.mk (a_e (bup_ a_x.out) hb);replace a_I:=a_a.mk (a_e (bup_ a_I.out) hb);replace HB:=a_a.mk (a_i (by repeat (first|(with_reducible first|exact HB.out|apply a_f|apply a_d|apply a_g|refine a_c ?_ a_P.out|refine a_c ?_ a_X.out|refine a_c ?_ a_Y.out)|exact HB.out)) hb);(try clear hb);(try clear hb2);(try clear hk);(try clear hi);have j_J : w123.cell? ⟨a_R,0,none⟩ = some (.slice Ao27 t317.length co27):=(a_j a_x.out 0).trans rfl;have j_K:=a_k a_x.out 0)|((with_reducible refine a_B (f:=22) rfl ?_);refine b_f (some 110) rfl rfl Try.func22 (by kernel_rfl) rfl #[.agg #[.slice Ao27 t317.length co27],.int .i64 (rd l1 x88_4)] rfl (by (try simp only [List.map_toArray,List.map_cons,List.map_nil]);first|done|rfl|(simp only [List.length_drop,List.length_take];rfl)) ?_;(with_reducible refine (a_S.calls _ _ t317 (rd l1 x88_4) true _ ?side1 ?side2 A91.out).mono ?_);(case side1 => repeat (first|exact (Kd.a_r a_n.out).2.2|(with_reducible refine Kd.a_M ?_ _)|(with_reducible refine Kd.a_N ?_ _)|(with_reducible refine Kd.a_T ?_)));(case side2 => exact (Kd.a_r a_n.out).2.1);rintro e w125 ⟨rfl,hb⟩;refine ⟨_,rfl,?_⟩;replace a_n:=a_a.mk (Kd.a_y (rup_ a_n.out) hb);replace a_F:=a_a.mk (Kd.a_y (rup_ a_F.out) hb);replace a_C:=a_a.mk (a_e (bup_ a_C.out) hb);replace a_x:=a_a.mk (a_e (bup_ a_x.out) hb);replace a_I:=a_a.mk (a_e (bup_ a_I.out) hb);replace HB:=a_a.mk (a_i (by repeat (first|(with_reducible first|exact HB.out|apply a_f|apply a_d|apply a_g|refine a_c ?_ a_P.out|refine a_c ?_ a_X.out|refine a_c ?_ a_Y.out)|exact HB.out)) hb);(try clear hb);(try clear hb2);(try clear hk);(try clear hi);have j_L : w125.cell? ⟨a_R,0,none⟩ = some (.slice Ao27 t317.length co27):=(a_j a_x.out 0).trans rfl;have j_M:=a_k a_x.out 0;have p348 : 0 ≤ ((rd l1 x88_4) : Int):=of_decide_eq_true (by first|(with_reducible assumption)|assumption);have q348 : (rd l1 x88_4) < (t317.length : Int):=of_decide_eq_true (by first|(with_reducible assumption)|assumption);obtain ⟨ad348,e348,f_k⟩:=Kd.b_w (Kd.a_r a_n.out).2.2 (rd l1 x88_4) p348 q348;cases e348;replace p348:=eq_true p348;replace q348:=eq_true q348)|(go_at_call 23;(with_reducible refine (b_d.calls k4 _ _ t317 (rd l1 x88_4) t349 _ ?side1 ?side2 A106.out).mono ?_);(case side1 => repeat (first|exact (Kd.a_r a_n.out).2.2|(with_reducible refine Kd.a_M ?_ _)|(with_reducible refine Kd.a_N ?_ _)|(with_reducible refine Kd.a_T ?_)));(case side2 => exact (Kd.a_r a_n.out).2.1);rintro e w127 ⟨rfl,hb⟩;replace a_n:=a_a.mk (Kd.a_y (rup_ a_n.out) hb);replace a_F:=a_a.mk (Kd.a_y (rup_ a_F.out) hb);replace a_C:=a_a.mk (a_e (bup_ a_C.out) hb);replace a_x:=a_a.mk (a_e (bup_ a_x.out) hb);replace a_I:=a_a.mk (a_e (bup_ a_I.out) hb);replace HB:=a_a.mk (a_i (by repeat (first|(with_reducible first|exact HB.out|apply a_f|apply a_d|apply a_g|refine a_c ?_ a_P.out|refine a_c ?_ a_X.out|refine a_c ?_ a_Y.out)|exact HB.out)) hb);(try clear hb);(try clear hb2);(try clear hk);(try clear hi)))
          go_ret
          exact ⟨by first|rfl|(simp [a_z,a_A] <;> rfl)|(simp [*, a_z,a_A] <;> rfl),by repeat (first|(with_reducible first|exact HB.out|apply a_f|apply a_d|apply a_g|refine a_c ?_ a_P.out|refine a_c ?_ a_X.out|refine a_c ?_ a_Y.out)|exact HB.out)⟩
         rw [if_pos c107] at H
         have c107b0 : (t349 == (rd t317 (rd l1 x88_4))) = true:=beq_iff_eq.mpr c107
         have c107b1 : (t349 != (rd t317 (rd l1 x88_4))) = false:=bne_eq_false_iff_eq.mpr c107
         clear c107
         have H':=a_a.mk H
         clear H
         have p342 : 0 ≤ (x88_4 : Int):=of_decide_eq_true (by first|(with_reducible assumption)|assumption)
         have q342 : x88_4 < (l1.length : Int):=of_decide_eq_true (by first|(with_reducible assumption)|assumption)
         obtain ⟨ad342,e342,b_e⟩:=Kd.b_w HR1.out x88_4 p342 q342
         cases e342
         replace b_e:=(HB.out.cell (World.block_lt_of_cell? w _ b_e)).trans b_e
         replace p342:=eq_true p342
         replace q342:=eq_true q342
         have l_i:=a_3.out
         have l_j:=a_Z.out
         have l_k:=b_c.out
         have l_l:=b_b.out
         have j_N : wr.cell? ⟨a_R,0,none⟩ = some (.slice Ao27 t317.length co27):=(a_j a_x.out 0).trans rfl
         have j_O:=a_k a_x.out 0
         go_wp2_with (first|((with_reducible refine a_B (f:=20) rfl ?_);refine b_f (some 98) rfl rfl Try.func20 (by kernel_rfl) rfl #[.agg #[.slice Ao27 t317.length co27],.int .i64 (rd l1 x88_4)] rfl (by (try simp only [List.map_toArray,List.map_cons,List.map_nil]);first|done|rfl|(simp only [List.length_drop,List.length_take];rfl)) ?_;(with_reducible refine (b_k.calls k4 _ _ t317 (rd l1 x88_4) t343 t344 _ ?side1 ?side2 A88.out).mono ?_);(case side1 => repeat (first|exact (Kd.a_r a_n.out).2.2|(with_reducible refine Kd.a_M ?_ _)|(with_reducible refine Kd.a_N ?_ _)|(with_reducible refine Kd.a_T ?_)));(case side2 => exact (Kd.a_r a_n.out).2.1);rintro e w111 ⟨rfl,hb⟩;refine ⟨_,rfl,?_⟩;replace a_n:=a_a.mk (Kd.a_y (rup_ a_n.out) hb);replace a_F:=a_a.mk (Kd.a_y (rup_ a_F.out) hb);replace a_C:=a_a.mk (a_e (bup_ a_C.out) hb);replace a_x:=a_a.mk (a_e (bup_ a_x.out) hb);replace a_I:=a_a.mk (a_e (bup_ a_I.out) hb);replace HB:=a_a.mk (a_i (by repeat (first|(with_reducible first|exact HB.out|apply a_f|apply a_d|apply a_g|refine a_c ?_ a_P.out|refine a_c ?_ a_X.out|refine a_c ?_ a_Y.out)|exact HB.out)) hb);(try clear hb);(try clear hb2);(try clear hk);(try clear hi);have j_P : w111.cell? ⟨a_R,0,none⟩ = some (.slice Ao27 t317.length co27):=(a_j a_x.out 0).trans rfl;have j_Q:=a_k a_x.out 0)|((with_reducible refine a_B (f:=21) rfl ?_);refine b_f (some 105) rfl rfl Try.func21 (by kernel_rfl) rfl #[.agg #[.slice Ao27 t317.length co27],.int .i64 (rd l1 x88_4)] rfl (by (try simp only [List.map_toArray,List.map_cons,List.map_nil]);first|done|rfl|(simp only [List.length_drop,List.length_take];rfl)) ?_;(with_reducible refine (a_l.calls k4 _ _ t317 (rd l1 x88_4) t345 t346 _ ?side1 ?side2 A90.out).mono ?_);(case side1 => repeat (first|exact (Kd.a_r a_n.out).2.2|(with_reducible refine Kd.a_M ?_ _)|(with_reducible refine Kd.a_N ?_ _)|(with_reducible refine Kd.a_T ?_)));(case side2 => exact (Kd.a_r a_n.out).2.1);rintro e w113 ⟨rfl,hb⟩;refine ⟨_,rfl,?_⟩;replace a_n:=a_a.mk (Kd.a_y (rup_ a_n.out) hb);replace a_F:=a_a.mk (Kd.a_y (rup_ a_F.out) hb);replace a_C:=a_a.mk (a_e (bup_ a_C.out) hb);replace a_x:=a_a.mk (a_e (bup_ a_x.out) hb);replace a_I:=a_a.mk (a_e (bup_ a_I.out) hb);replace HB:=a_a.mk (a_i (by repeat (first|(with_reducible first|exact HB.out|apply a_f|apply a_d|apply a_g|refine a_c ?_ a_P.out|refine a_c ?_ a_X.out|refine a_c ?_ a_Y.out)|exact HB.out)) hb);(try clear hb);(try clear hb2);(try clear hk);(try clear hi);have j_R : w113.cell? ⟨a_R,0,none⟩ = some (.slice Ao27 t317.length co27):=(a_j a_x.out 0).trans rfl;have j_S:=a_k a_x.out 0)|((with_reducible refine a_B (f:=22) rfl ?_);refine b_f (some 110) rfl rfl Try.func22 (by kernel_rfl) rfl #[.agg #[.slice Ao27 t317.length co27],.int .i64 (rd l1 x88_4)] rfl (by (try simp only [List.map_toArray,List.map_cons,List.map_nil]);first|done|rfl|(simp only [List.length_drop,List.length_take];rfl)) ?_;(with_reducible refine (a_S.calls _ _ t317 (rd l1 x88_4) true _ ?side1 ?side2 A91.out).mono ?_);(case side1 => repeat (first|exact (Kd.a_r a_n.out).2.2|(with_reducible refine Kd.a_M ?_ _)|(with_reducible refine Kd.a_N ?_ _)|(with_reducible refine Kd.a_T ?_)));(case side2 => exact (Kd.a_r a_n.out).2.1);rintro e w115 ⟨rfl,hb⟩;refine ⟨_,rfl,?_⟩;replace a_n:=a_a.mk (Kd.a_y (rup_ a_n.out) hb);replace a_F:=a_a.mk (Kd.a_y (rup_ a_F.out) hb);replace a_C:=a_a.mk (a_e (bup_ a_C.out) hb);replace a_x:=a_a.mk (a_e (bup_ a_x.out) hb);replace a_I:=a_a.mk (a_e (bup_ a_I.out) hb);replace HB:=a_a.mk (a_i (by repeat (first|(with_reducible first|exact HB.out|apply a_f|apply a_d|apply a_g|refine a_c ?_ a_P.out|refine a_c ?_ a_X.out|refine a_c ?_ a_Y.out)|exact HB.out)) hb);(try clear hb);(try clear hb2);(try clear hk);(try clear hi);have j_T : w115.cell? ⟨a_R,0,none⟩ = some (.slice Ao27 t317.length co27):=(a_j a_x.out 0).trans rfl;have j_U:=a_k a_x.out 0;have p348 : 0 ≤ ((rd l1 x88_4) : Int):=of_decide_eq_true (by first|(with_reducible assumption)|assumption);have q348 : (rd l1 x88_4) < (t317.length : Int):=of_decide_eq_true (by first|(with_reducible assumption)|assumption);obtain ⟨ad348,e348,f_k⟩:=Kd.b_w (Kd.a_r a_n.out).2.2 (rd l1 x88_4) p348 q348;cases e348;replace p348:=eq_true p348;replace q348:=eq_true q348)|(go_at_call 23;(with_reducible refine (b_d.calls k4 _ _ t317 (rd l1 x88_4) t349 _ ?side1 ?side2 A106.out).mono ?_);(case side1 => repeat (first|exact (Kd.a_r a_n.out).2.2|(with_reducible refine Kd.a_M ?_ _)|(with_reducible refine Kd.a_N ?_ _)|(with_reducible refine Kd.a_T ?_)));(case side2 => exact (Kd.a_r a_n.out).2.1);rintro e w117 ⟨rfl,hb⟩;replace a_n:=a_a.mk (Kd.a_y (rup_ a_n.out) hb);replace a_F:=a_a.mk (Kd.a_y (rup_ a_F.out) hb);replace a_C:=a_a.mk (a_e (bup_ a_C.out) hb);replace a_x:=a_a.mk (a_e (bup_ a_x.out) hb);replace a_I:=a_a.mk (a_e (bup_ a_I.out) hb);replace HB:=a_a.mk (a_i (by repeat (first|(with_reducible first|exact HB.out|apply a_f|apply a_d|apply a_g|refine a_c ?_ a_P.out|refine a_c ?_ a_X.out|refine a_c ?_ a_Y.out)|exact HB.out)) hb);(try clear hb);(try clear hb2);(try clear hk);(try clear hi)))
         go_roundg k4
         case measure => have:=HK1.out;have:=HJ16.out;have:=HK3.out;have:=HK4.out;omega
         case rel => exact ⟨(wrap64 (x88_4 + 1)),(by first|rfl|(simp;done)|(simp [*];done)),H',⟨by have:=HK1.out;have:=HJ16.out;have:=HK3.out;have:=HK4.out;omega⟩,⟨by (with_reducible repeat (first|apply Kd.a_5|apply Kd.a_1|apply Kd.a_0));exact a_n.out⟩,⟨by (with_reducible repeat (first|apply Kd.a_5|apply Kd.a_1|apply Kd.a_0));exact a_F.out⟩,⟨by (with_reducible repeat (first|refine a_u ?_ _|refine a_t ?_|refine a_w ?_ _));exact a_C.out⟩,⟨by (with_reducible repeat (first|refine a_u ?_ _|refine a_t ?_|refine a_w ?_ _));exact a_x.out⟩,⟨by (with_reducible repeat (first|refine a_u ?_ _|refine a_t ?_|refine a_w ?_ _));exact a_I.out⟩,⟨by repeat (first|(with_reducible first|exact HB.out|apply a_f|apply a_d|apply a_g|refine a_c ?_ a_P.out|refine a_c ?_ a_X.out|refine a_c ?_ a_Y.out)|exact HB.out)⟩⟩
end Go.Proofs.Ytkhbffjfclepfaa.Q
end
