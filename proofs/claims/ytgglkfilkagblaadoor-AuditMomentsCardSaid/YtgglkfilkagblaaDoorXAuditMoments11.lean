/- Part 12 of 13 of what the row of AuditMoments stands on: contracts over the given program's functions, the plain law, the row; no condition beyond those that each theorem states. -/
import Derived.Test.YtgglkfilkagblaaDoorXAuditMoments10
section
namespace Go.Proofs.YtgglkfilkagblaaDoor.Q
open Go.RowKit Go.Proofs.YtgglkfilkagblaaDoorW.PrintWords Go.Proofs.YtgglkfilkagblaaDoorW.PrintLast Go.Proofs.YtgglkfilkagblaaDoorW.PrintMore
set_option linter.unusedVariables false
set_option linter.unusedSimpArgs false
mutual
def a_l.j0 : Nat → Bool → Int → List (S33) → Option (Bool)
 | 0,_,_,_ => none
 | k + 1,x15,x211000,x211001 => if x15 = true then (some false) else (a_l.l0 k 0 x211000 x211001)
def a_l.l0 : Nat → Int → Int → List (S33) → Option (Bool)
 | 0,_,_,_ => none
 | k + 1,x3,x211000,x211001 => if x3 < (x211001.length : Int) then (if 0 ≤ x3 then ((b_E.f ((a_a x211001 x3).f0) ((a_a x211001 x3).f1) ((a_a x211001 x3).f2) ((a_a x211001 x3).f3) ((a_a x211001 x3).f4) ((a_a x211001 x3).f5) ((a_a x211001 x3).f6) ((a_a x211001 x3).f7) ((a_a x211001 x3).f8) ((a_a x211001 x3).f9) ((a_a x211001 x3).f10)).bind fun t213 => (if t213 = true then (if x3 > 0 then (if 0 ≤ (wrap64 (x3 - 1)) then (if (wrap64 (x3 - 1)) < (x211001.length : Int) then (a_l.j2 k x3 (decide (((a_a x211001 (wrap64 (x3 - 1))).f0) ≥ ((a_a x211001 x3).f0))) x211000 x211001 ((a_a x211001 x3).f0) ((a_a x211001 x3).f1) ((a_a x211001 x3).f2) ((a_a x211001 x3).f3) ((a_a x211001 x3).f4) ((a_a x211001 x3).f5) ((a_a x211001 x3).f6) ((a_a x211001 x3).f7) ((a_a x211001 x3).f8) ((a_a x211001 x3).f9) ((a_a x211001 x3).f10)) else (none)) else (none)) else (a_l.j2 k x3 false x211000 x211001 ((a_a x211001 x3).f0) ((a_a x211001 x3).f1) ((a_a x211001 x3).f2) ((a_a x211001 x3).f3) ((a_a x211001 x3).f4) ((a_a x211001 x3).f5) ((a_a x211001 x3).f6) ((a_a x211001 x3).f7) ((a_a x211001 x3).f8) ((a_a x211001 x3).f9) ((a_a x211001 x3).f10))) else (a_l.j2 k x3 true x211000 x211001 ((a_a x211001 x3).f0) ((a_a x211001 x3).f1) ((a_a x211001 x3).f2) ((a_a x211001 x3).f3) ((a_a x211001 x3).f4) ((a_a x211001 x3).f5) ((a_a x211001 x3).f6) ((a_a x211001 x3).f7) ((a_a x211001 x3).f8) ((a_a x211001 x3).f9) ((a_a x211001 x3).f10)))) else (none)) else (some true)
def a_l.j2 : Nat → Int → Bool → Int → List (S33) → Int → Int → Int → Int → Int → Bool → Bool → Int → Int → Int → Int → Option (Bool)
 | 0,_,_,_,_,_,_,_,_,_,_,_,_,_,_,_ => none
 | k + 1,x3,x46,x211000,x211001,x213000,x213001,x213002,x213003,x213004,x213005,x213006,x213007,x213008,x213009,x213010 => if x46 = true then (some false) else (a_l.l1 k x3 0 0 x211000 x211001 x213000 x213001 x213002 x213003 x213004 x213005 x213006 x213007 x213008 x213009 x213010)
def a_l.l1 : Nat → Int → Int → Int → Int → List (S33) → Int → Int → Int → Int → Int → Bool → Bool → Int → Int → Int → Int → Option (Bool)
 | 0,_,_,_,_,_,_,_,_,_,_,_,_,_,_,_,_ => none
 | k + 1,x3,x5,x6,x211000,x211001,x213000,x213001,x213002,x213003,x213004,x213005,x213006,x213007,x213008,x213009,x213010 => if x6 < (x211001.length : Int) then (if 0 ≤ x6 then (if ((a_a x211001 x6).f1) = x213001 then (if ((a_a x211001 x6).f8) = x213008 then (if ((a_a x211001 x6).f9) = x213009 then (if ((a_a x211001 x6).f10) = x213010 then (a_l.l1 k x3 (wrap64 (x5 + 1)) (wrap64 (x6 + 1)) x211000 x211001 x213000 x213001 x213002 x213003 x213004 x213005 x213006 x213007 x213008 x213009 x213010) else (some false)) else (some false)) else (some false)) else (a_l.l1 k x3 x5 (wrap64 (x6 + 1)) x211000 x211001 x213000 x213001 x213002 x213003 x213004 x213005 x213006 x213007 x213008 x213009 x213010)) else (none)) else (if x5 = x213009 then (a_l.l0 k (wrap64 (x3 + 1)) x211000 x211001) else (some false))
end
def a_l.f (k : Nat) (a0_0 : Int) (l0_1 : List (S33)) : Option (Bool):=if a0_0 < 0 then (a_l.j0 k true a0_0 l0_1) else (a_l.j0 k (decide (a0_0 > 1125899906842624)) a0_0 l0_1)
theorem a_l.c_F : ∀ k,(∀ y0 y1 y2,LeO (a_l.j0 k y0 y1 y2) (a_l.j0 (k + 1) y0 y1 y2)) ∧ (∀ y0 y1 y2,LeO (a_l.l0 k y0 y1 y2) (a_l.l0 (k + 1) y0 y1 y2)) ∧ (∀ y0 y1 y2 y3 y4 y5 y6 y7 y8 y9 y10 y11 y12 y13 y14,LeO (a_l.j2 k y0 y1 y2 y3 y4 y5 y6 y7 y8 y9 y10 y11 y12 y13 y14) (a_l.j2 (k + 1) y0 y1 y2 y3 y4 y5 y6 y7 y8 y9 y10 y11 y12 y13 y14)) ∧ (∀ y0 y1 y2 y3 y4 y5 y6 y7 y8 y9 y10 y11 y12 y13 y14 y15,LeO (a_l.l1 k y0 y1 y2 y3 y4 y5 y6 y7 y8 y9 y10 y11 y12 y13 y14 y15) (a_l.l1 (k + 1) y0 y1 y2 y3 y4 y5 y6 y7 y8 y9 y10 y11 y12 y13 y14 y15))
 | 0 => ⟨fun _ _ _ r h => by simp [a_l.j0] at h,fun _ _ _ r h => by simp [a_l.l0] at h,fun _ _ _ _ _ _ _ _ _ _ _ _ _ _ _ r h => by simp [a_l.j2] at h,fun _ _ _ _ _ _ _ _ _ _ _ _ _ _ _ _ r h => by simp [a_l.l1] at h⟩
 | k + 1 => by
  obtain ⟨ih0,ih1,ih2,ih3⟩:=a_l.c_F k
  refine ⟨?_,?_,?_,?_⟩
  ·intro y0 y1 y2
   unfold a_l.j0
   repeat' first
   | (with_reducible exact ih0 _ _ _)
   | (with_reducible exact ih1 _ _ _)
   | (with_reducible exact ih2 _ _ _ _ _ _ _ _ _ _ _ _ _ _ _)
   | (with_reducible exact ih3 _ _ _ _ _ _ _ _ _ _ _ _ _ _ _ _)
   | (with_reducible exact LeO.refl _)
   | (with_reducible exact LeO.none _)
   | (with_reducible refine LeO.ite ?_ ?_)
   | (with_reducible refine LeO.bind ?_ (fun _ => ?_))
   | exact ih0 _ _ _
   | exact ih1 _ _ _
   | exact ih2 _ _ _ _ _ _ _ _ _ _ _ _ _ _ _
   | exact ih3 _ _ _ _ _ _ _ _ _ _ _ _ _ _ _ _
   | exact LeO.none _
   | refine LeO.ite ?_ ?_
   | refine LeO.bind ?_ (fun _ => ?_)
  ·intro y0 y1 y2
   unfold a_l.l0
   repeat' first
   | (with_reducible exact ih0 _ _ _)
   | (with_reducible exact ih1 _ _ _)
   | (with_reducible exact ih2 _ _ _ _ _ _ _ _ _ _ _ _ _ _ _)
   | (with_reducible exact ih3 _ _ _ _ _ _ _ _ _ _ _ _ _ _ _ _)
   | (with_reducible exact LeO.refl _)
   | (with_reducible exact LeO.none _)
   | (with_reducible refine LeO.ite ?_ ?_)
   | (with_reducible refine LeO.bind ?_ (fun _ => ?_))
   | exact ih0 _ _ _
   | exact ih1 _ _ _
   | exact ih2 _ _ _ _ _ _ _ _ _ _ _ _ _ _ _
   | exact ih3 _ _ _ _ _ _ _ _ _ _ _ _ _ _ _ _
   | exact LeO.none _
   | refine LeO.ite ?_ ?_
   | refine LeO.bind ?_ (fun _ => ?_)
  ·intro y0 y1 y2 y3 y4 y5 y6 y7 y8 y9 y10 y11 y12 y13 y14
   unfold a_l.j2
   repeat' first
   | (with_reducible exact ih0 _ _ _)
   | (with_reducible exact ih1 _ _ _)
   | (with_reducible exact ih2 _ _ _ _ _ _ _ _ _ _ _ _ _ _ _)
   | (with_reducible exact ih3 _ _ _ _ _ _ _ _ _ _ _ _ _ _ _ _)
   | (with_reducible exact LeO.refl _)
   | (with_reducible exact LeO.none _)
   | (with_reducible refine LeO.ite ?_ ?_)
   | (with_reducible refine LeO.bind ?_ (fun _ => ?_))
   | exact ih0 _ _ _
   | exact ih1 _ _ _
   | exact ih2 _ _ _ _ _ _ _ _ _ _ _ _ _ _ _
   | exact ih3 _ _ _ _ _ _ _ _ _ _ _ _ _ _ _ _
   | exact LeO.none _
   | refine LeO.ite ?_ ?_
   | refine LeO.bind ?_ (fun _ => ?_)
  ·intro y0 y1 y2 y3 y4 y5 y6 y7 y8 y9 y10 y11 y12 y13 y14 y15
   unfold a_l.l1
   repeat' first
   | (with_reducible exact ih0 _ _ _)
   | (with_reducible exact ih1 _ _ _)
   | (with_reducible exact ih2 _ _ _ _ _ _ _ _ _ _ _ _ _ _ _)
   | (with_reducible exact ih3 _ _ _ _ _ _ _ _ _ _ _ _ _ _ _ _)
   | (with_reducible exact LeO.refl _)
   | (with_reducible exact LeO.none _)
   | (with_reducible refine LeO.ite ?_ ?_)
   | (with_reducible refine LeO.bind ?_ (fun _ => ?_))
   | exact ih0 _ _ _
   | exact ih1 _ _ _
   | exact ih2 _ _ _ _ _ _ _ _ _ _ _ _ _ _ _
   | exact ih3 _ _ _ _ _ _ _ _ _ _ _ _ _ _ _ _
   | exact LeO.none _
   | refine LeO.ite ?_ ?_
   | refine LeO.bind ?_ (fun _ => ?_)
theorem a_l.mono : ∀ a0 a1 k,LeO (a_l.f k a0 a1) (a_l.f (k + 1) a0 a1):=by
 intro a0 a1 k
 obtain ⟨ih0,ih1,ih2,ih3⟩:=a_l.c_F k
 unfold a_l.f
 repeat' first
  | (with_reducible exact ih0 _ _ _)
  | (with_reducible exact ih1 _ _ _)
  | (with_reducible exact ih2 _ _ _ _ _ _ _ _ _ _ _ _ _ _ _)
  | (with_reducible exact ih3 _ _ _ _ _ _ _ _ _ _ _ _ _ _ _ _)
  | (with_reducible exact LeO.refl _)
  | (with_reducible exact LeO.none _)
  | (with_reducible refine LeO.ite ?_ ?_)
  | (with_reducible refine LeO.bind ?_ (fun _ => ?_))
  | exact ih0 _ _ _
  | exact ih1 _ _ _
  | exact ih2 _ _ _ _ _ _ _ _ _ _ _ _ _ _ _
  | exact ih3 _ _ _ _ _ _ _ _ _ _ _ _ _ _ _ _
  | exact LeO.none _
  | refine LeO.ite ?_ ?_
  | refine LeO.bind ?_ (fun _ => ?_)
def a_l.T7 : Bool × List (List Nat × List Nat):=(true,[([],[]),([0],[0]),([1],[1]),([2,1],[2]),([3],[3]),([4,3],[3,4]),([5,3,3],[3,5]),([6],[6]),([7,6],[6,7]),([6],[6]),([9,6],[6,9]),([8,10,6],[6,8,10]),([11,6],[6,11]),([12,6],[6,12]),([6],[6]),([14,6],[6,14]),([13,15,6],[6,13,15]),([6,16,3],[3,6,16]),([3,17],[3,17])])
def a_l.B7 : List Nat:=[0,1,3,7,15,31,63,127,255,127,639,2047,4095,8191,127,16511,65535,131071,262143]
theorem a_l.tab7 : rtab .any (opsOf Tryd.f9 7) = a_l.T7:=by kernel_rfl
theorem a_l.o_W : f_S a_l.T7.2 a_l.B7 = true:=by kernel_rfl
set_option maxHeartbeats 8000000 in
set_option maxRecDepth 100000 in
theorem a_l.calls (k : Nat) (a0_0 : Int) (A0_1 : Option Addr) (c0_1 : Nat) (l0_1 : List (S33)) (r : Bool) (w : World) (hr0_1 : Kd.C k33 w A0_1 l0_1.length l0_1) (hc0_1 : l0_1.length ≤ c0_1) (h : a_l.f k a0_0 l0_1 = some r) :
 Calls Tryd.prog 9 #[.agg #[.int .i64 a0_0,.slice A0_1 l0_1.length c0_1]] w fun e w' => e = .returned (.bool r) ∧ Below w.heap.size w w':=by
 have hu24:=Tryd.underlying24
 have hu33:=Tryd.underlying33
 have b_v:=a_g.mk hr0_1
 have c_b:=a_g.mk hc0_1
 clear hr0_1 hc0_1
 have HB:=a_g.mk (Below.refl w.heap.size w)
 have H : (if a0_0 < 0 then (a_l.j0 k true a0_0 l0_1) else (a_l.j0 k (decide (a0_0 > 1125899906842624)) a0_0 l0_1)) = some r:=h
 clear h
 have HC2:=a_g.mk H
 clear H
 go_enter Tryd.func9,Tryd.ntmps9
 go_upto_region 1 with (first|((with_reducible refine a_G (N:=1) rfl ?_);refine a_C ?hg (N:=1) ?hd (cs:=#[.int .i64 a0_0,.slice A0_1 l0_1.length c0_1]) (t:=24) ?hr ?_;(case hd => rfl);(case hg => rfl);(case hr => first|(go_simp;done)|(go_simp;rfl));intro d_c hg w3 hbox hb;have b_m:=a_g.mk (hbox);have I_m:=a_g.mk ((by rw [hg];exact (a_n (lup_ HB.out)) : w.heap.size ≤ d_c));have d_i:=a_g.mk ((by rw [hg];exact (a_n (lup_ HB.out)) : w.heap.size ≤ d_c));replace HB:=a_g.mk (a_p (lup_ HB.out) hb);clear hb hbox hg))
 (try simp only [Act.put,sa_,sb_,sc_])
 go_cut [15] (fun v15 wc => ∃ (kq : Nat) (x15_1 : Bool),v15 = .bool x15_1 ∧ a_g (a_l.j0 kq x15_1 a0_0 l0_1 = some r) ∧ a_g (kq ≤ k) ∧ a_g (wc.heap[d_c]? = some (.cells #[.int .i64 a0_0,(.slice A0_1 l0_1.length c0_1)] 24 (0,0))) ∧ a_g (Below w.heap.size w wc))
 case first =>
  have H:=HC2.out
  clear HC2
  by_cases c4 : a0_0 < 0
  ·rw [if_pos c4] at H
   have c4b0 : decide (a0_0 < 0) = true:=decide_eq_true c4
   clear c4
   (first|rw [c4b0]|(simp only [a_0,a_1];rw [c4b0])|skip)
   have H':=a_g.mk H
   clear H
   have f_X : w3.cell? ⟨d_c,0,none⟩ = some (.int .i64 a0_0):=(a_b b_m.out 0).trans rfl
   have f_Y : w3.cell? ⟨d_c,1,none⟩ = some (.slice A0_1 l0_1.length c0_1):=(a_b b_m.out 1).trans rfl
   have f_Z:=a_c b_m.out 0
   have f_0:=a_c b_m.out 1
   go_wp2
   go_meet
   case rel => exact ⟨_,(true),(by first|rfl|(simp;done)|(simp [*];done)),H',⟨by first|omega|exact Nat.le_refl _⟩,⟨by (with_reducible repeat (first|refine a_e ?_ _|refine a_h ?_|refine a_d ?_ _));exact b_m.out⟩,⟨by repeat (first|(with_reducible first|exact HB.out|apply a_j|apply a_f|apply a_k|refine a_i ?_ d_i.out)|exact HB.out)⟩⟩
  rw [if_neg c4] at H
  have c4b0 : decide (a0_0 < 0) = false:=decide_eq_false c4
  clear c4
  (first|rw [c4b0]|(simp only [a_0,a_1];rw [c4b0])|skip)
  have H':=a_g.mk H
  clear H
  have l_T : w3.cell? ⟨d_c,0,none⟩ = some (.int .i64 a0_0):=(a_b b_m.out 0).trans rfl
  have l_U : w3.cell? ⟨d_c,1,none⟩ = some (.slice A0_1 l0_1.length c0_1):=(a_b b_m.out 1).trans rfl
  have l_V:=a_c b_m.out 0
  have l_W:=a_c b_m.out 1
  go_wp2
  go_meet
  case rel => exact ⟨_,(decide (a0_0 > 1125899906842624)),(by first|rfl|(simp;done)|(simp [*];done)),H',⟨by first|omega|exact Nat.le_refl _⟩,⟨by (with_reducible repeat (first|refine a_e ?_ _|refine a_h ?_|refine a_d ?_ _));exact b_m.out⟩,⟨by repeat (first|(with_reducible first|exact HB.out|apply a_j|apply a_f|apply a_k|refine a_i ?_ d_i.out)|exact HB.out)⟩⟩
 case rest =>
  clear HC2
  try clear p2
  try clear c4
  try clear c4b0
  try clear f_X
  try clear f_Y
  try clear l_T
  try clear l_U
  try clear f_Z
  try clear f_0
  try clear l_V
  try clear l_W
  obtain ⟨kq,x15_1,rfl,HA,HJ1,b_m,HB⟩:=hcut
  cases kq with
  | zero => exact absurd HA.out (by simp [a_l.j0])
  | succ kj1 =>
   have H:=HA.out
   clear HA
   simp only [a_l.j0] at H
   by_cases c7 : x15_1 = true
   ·subst c7
    have H1 : (some false) = some r:=by rw [if_pos rfl] at H;exact H
    clear H
    have H:=H1
    clear H1
    obtain rfl:=Option.some.inj H
    go_wp2
    go_ret
    exact ⟨by first|rfl|(simp [a_u,a_v] <;> rfl)|(simp [*, a_u,a_v] <;> rfl),by repeat (first|(with_reducible first|exact HB.out|apply a_j|apply a_f|apply a_k|refine a_i ?_ d_i.out)|exact HB.out)⟩
   replace c7:=Bool.eq_false_iff.mpr c7
   subst c7
   have H1 : (a_l.l0 kj1 0 a0_0 l0_1) = some r:=by rw [if_neg (show ¬ (false = true) by decide)] at H;exact H
   clear H
   have H:=H1
   clear H1
   have H':=a_g.mk H
   clear H
   go_wp2
   go_loopg [3] kj1 (fun kq v3 w' => ∃ (x3_2 : Int),v3 = .int .i64 x3_2 ∧ a_g (a_l.l0 kq x3_2 a0_0 l0_1 = some r) ∧ a_g (kq ≤ kj1) ∧ a_g (w'.heap[d_c]? = some (.cells #[.int .i64 a0_0,(.slice A0_1 l0_1.length c0_1)] 24 (0,0))) ∧ a_g (Below w.heap.size w w'))
   case atStart => exact ⟨(0),(by first|rfl|(simp;done)|(simp [*];done)),H',⟨Nat.le_refl _⟩,⟨by (with_reducible repeat (first|refine a_e ?_ _|refine a_h ?_|refine a_d ?_ _));exact b_m.out⟩,⟨by repeat (first|(with_reducible first|exact HB.out|apply a_j|apply a_f|apply a_k|refine a_i ?_ d_i.out)|exact HB.out)⟩⟩
   case round =>
    clear H'
    try clear p2
    try clear c4
    try clear c4b0
    try clear c7
    try clear f_X
    try clear f_Y
    try clear l_T
    try clear l_U
    try clear f_Z
    try clear f_0
    try clear l_V
    try clear l_W
    try clear p2
    obtain ⟨x3_2,rfl,HA,HK2,b_m,HB⟩:=hrel
    cases gk with
    | zero => exact absurd HA.out (by simp [a_l.l0])
    | succ k2 =>
     have H:=HA.out
     clear HA
     simp only [a_l.l0] at H
     by_cases c8 : x3_2 < (l0_1.length : Int)
     rotate_left
     ·rw [if_neg c8] at H
      have c8b0 : decide (x3_2 < (l0_1.length : Int)) = false:=decide_eq_false c8
      clear c8
      obtain rfl:=Option.some.inj H
      have u_5 : wr.cell? ⟨d_c,0,none⟩ = some (.int .i64 a0_0):=(a_b b_m.out 0).trans rfl
      have u_6 : wr.cell? ⟨d_c,1,none⟩ = some (.slice A0_1 l0_1.length c0_1):=(a_b b_m.out 1).trans rfl
      have w_R:=a_c b_m.out 0
      have w_S:=a_c b_m.out 1
      go_wp2
      go_ret
      exact ⟨by first|rfl|(simp [a_u,a_v] <;> rfl)|(simp [*, a_u,a_v] <;> rfl),by repeat (first|(with_reducible first|exact HB.out|apply a_j|apply a_f|apply a_k|refine a_i ?_ d_i.out)|exact HB.out)⟩
     rw [if_pos c8] at H
     have c8b0 : decide (x3_2 < (l0_1.length : Int)) = true:=decide_eq_true c8
     clear c8
     by_cases c9 : 0 ≤ x3_2
     rotate_left
     ·rw [if_neg c9] at H
      exact absurd H (by simp)
     rw [if_pos c9] at H
     have c9b0 : decide (0 ≤ x3_2) = true:=decide_eq_true c9
     clear c9
     have HC10:=a_g.mk H
     clear H
     have i_g : wr.cell? ⟨d_c,0,none⟩ = some (.int .i64 a0_0):=(a_b b_m.out 0).trans rfl
     have i_h : wr.cell? ⟨d_c,1,none⟩ = some (.slice A0_1 l0_1.length c0_1):=(a_b b_m.out 1).trans rfl
     have i_k:=a_c b_m.out 0
     have g_L:=a_c b_m.out 1
     have p211 : 0 ≤ (x3_2 : Int):=of_decide_eq_true (by first|(with_reducible assumption)|assumption)
     have q211 : x3_2 < (l0_1.length : Int):=of_decide_eq_true (by first|(with_reducible assumption)|assumption)
     obtain ⟨ad211,e211,j_f,j_g,j_h,j_i,j_j,j_k,j_l,j_m,j_n,j_o,h_Z⟩:=c_e b_v.out x3_2 p211 q211
     cases e211
     replace j_f:=(HB.out.cell (World.block_lt_of_cell? w _ j_f)).trans j_f
     replace j_g:=(HB.out.cell (World.block_lt_of_cell? w _ j_g)).trans j_g
     replace j_h:=(HB.out.cell (World.block_lt_of_cell? w _ j_h)).trans j_h
     replace j_i:=(HB.out.cell (World.block_lt_of_cell? w _ j_i)).trans j_i
     replace j_j:=(HB.out.cell (World.block_lt_of_cell? w _ j_j)).trans j_j
     replace j_k:=(HB.out.cell (World.block_lt_of_cell? w _ j_k)).trans j_k
     replace j_l:=(HB.out.cell (World.block_lt_of_cell? w _ j_l)).trans j_l
     replace j_m:=(HB.out.cell (World.block_lt_of_cell? w _ j_m)).trans j_m
     replace j_n:=(HB.out.cell (World.block_lt_of_cell? w _ j_n)).trans j_n
     replace j_o:=(HB.out.cell (World.block_lt_of_cell? w _ j_o)).trans j_o
     replace h_Z:=(HB.out.cell (World.block_lt_of_cell? w _ h_Z)).trans h_Z
     replace p211:=eq_true p211
     replace q211:=eq_true q211
     go_upto_region 7 with (first|((with_reducible refine a_G (N:=4) rfl ?_);refine a_C ?hg (N:=4) ?hd (cs:=#[.int .i64 0,.int .i64 0,.int .i64 0,.int .i64 0,.int .i64 0,.bool false,.bool false,.int .u32 0,.int .i64 0,.int .i64 0,.int .i64 0]) (t:=33) ?hr ?_;(case hd => rfl);(case hg => rfl);(case hr => first|(go_simp;done)|(go_simp;rfl));intro a_K hg w12 hbox hb;have a_H:=a_g.mk (hbox);have I_n:=a_g.mk ((by rw [hg];exact (a_n (by repeat (first|(with_reducible first|exact HB.out|apply a_j|apply a_f|apply a_k|refine a_i ?_ d_i.out)|exact HB.out))) : w.heap.size ≤ a_K));have d_Y:=a_g.mk ((by rw [hg];exact (a_n (by repeat (first|(with_reducible first|exact HB.out|apply a_j|apply a_f|apply a_k|refine a_i ?_ d_i.out)|exact HB.out))) : w.heap.size ≤ a_K));have b_f:=a_g.mk ((by rw [hg];exact Nat.ne_of_lt (a_L (bup_ b_m.out)) : d_c ≠ a_K));have e_T:=a_g.mk ((by rw [hg];exact Nat.ne_of_gt (a_L (bup_ b_m.out)) : a_K ≠ d_c));replace b_m:=a_g.mk (a_m (bup_ b_m.out) hb);replace HB:=a_g.mk (a_p (by repeat (first|(with_reducible first|exact HB.out|apply a_j|apply a_f|apply a_k|refine a_i ?_ d_i.out)|exact HB.out)) hb);clear hb hbox hg;have s_l:=e_T.out;have s_m:=b_f.out;have f_y : w12.cell? ⟨a_K,0,none⟩ = some (.int .i64 0):=(a_b a_H.out 0).trans rfl;have f_z : w12.cell? ⟨a_K,1,none⟩ = some (.int .i64 0):=(a_b a_H.out 1).trans rfl;have f_A : w12.cell? ⟨a_K,2,none⟩ = some (.int .i64 0):=(a_b a_H.out 2).trans rfl;have f_B : w12.cell? ⟨a_K,3,none⟩ = some (.int .i64 0):=(a_b a_H.out 3).trans rfl;have f_C : w12.cell? ⟨a_K,4,none⟩ = some (.int .i64 0):=(a_b a_H.out 4).trans rfl;have f_D : w12.cell? ⟨a_K,5,none⟩ = some (.bool false):=(a_b a_H.out 5).trans rfl;have f_E : w12.cell? ⟨a_K,6,none⟩ = some (.bool false):=(a_b a_H.out 6).trans rfl;have f_F : w12.cell? ⟨a_K,7,none⟩ = some (.int .u32 0):=(a_b a_H.out 7).trans rfl;have f_G : w12.cell? ⟨a_K,8,none⟩ = some (.int .i64 0):=(a_b a_H.out 8).trans rfl;have f_H : w12.cell? ⟨a_K,9,none⟩ = some (.int .i64 0):=(a_b a_H.out 9).trans rfl;have e_P : w12.cell? ⟨a_K,10,none⟩ = some (.int .i64 0):=(a_b a_H.out 10).trans rfl;have f_I:=a_c a_H.out 0;have f_J:=a_c a_H.out 1;have f_K:=a_c a_H.out 2;have f_L:=a_c a_H.out 3;have f_M:=a_c a_H.out 4;have f_N:=a_c a_H.out 5;have f_O:=a_c a_H.out 6;have f_P:=a_c a_H.out 7;have f_Q:=a_c a_H.out 8;have f_R:=a_c a_H.out 9;have e_Q:=a_c a_H.out 10))
     (try simp only [Act.put,sa_,sb_,sc_])
     go_cut [46] (fun v46 wc => ∃ (kq : Nat) (x46_9 : Bool),v46 = .bool x46_9 ∧ a_g (a_l.j2 kq x3_2 x46_9 a0_0 l0_1 ((a_a l0_1 x3_2).f0) ((a_a l0_1 x3_2).f1) ((a_a l0_1 x3_2).f2) ((a_a l0_1 x3_2).f3) ((a_a l0_1 x3_2).f4) ((a_a l0_1 x3_2).f5) ((a_a l0_1 x3_2).f6) ((a_a l0_1 x3_2).f7) ((a_a l0_1 x3_2).f8) ((a_a l0_1 x3_2).f9) ((a_a l0_1 x3_2).f10) = some r) ∧ a_g (kq ≤ k2) ∧ a_g (wc.heap[d_c]? = some (.cells #[.int .i64 a0_0,(.slice (some ad211) l0_1.length c0_1)] 24 (0,0))) ∧ a_g (wc.heap[a_K]? = some (.cells #[.int .i64 ((a_a l0_1 x3_2).f0),.int .i64 ((a_a l0_1 x3_2).f1),.int .i64 ((a_a l0_1 x3_2).f2),.int .i64 ((a_a l0_1 x3_2).f3),.int .i64 ((a_a l0_1 x3_2).f4),.bool ((a_a l0_1 x3_2).f5),.bool ((a_a l0_1 x3_2).f6),.int .u32 ((a_a l0_1 x3_2).f7),.int .i64 ((a_a l0_1 x3_2).f8),.int .i64 ((a_a l0_1 x3_2).f9),.int .i64 ((a_a l0_1 x3_2).f10)] 33 (0,0))) ∧ a_g (Below w.heap.size w wc))
     case first =>
      have H:=HC10.out
      clear HC10
      replace H:=Option.bind_eq_some_iff.mp H
      obtain ⟨t213,A150,H⟩:=H
      replace H : (if t213 = true then (if x3_2 > 0 then (if 0 ≤ (wrap64 (x3_2 - 1)) then (if (wrap64 (x3_2 - 1)) < (l0_1.length : Int) then (a_l.j2 k2 x3_2 (decide (((a_a l0_1 (wrap64 (x3_2 - 1))).f0) ≥ ((a_a l0_1 x3_2).f0))) a0_0 l0_1 ((a_a l0_1 x3_2).f0) ((a_a l0_1 x3_2).f1) ((a_a l0_1 x3_2).f2) ((a_a l0_1 x3_2).f3) ((a_a l0_1 x3_2).f4) ((a_a l0_1 x3_2).f5) ((a_a l0_1 x3_2).f6) ((a_a l0_1 x3_2).f7) ((a_a l0_1 x3_2).f8) ((a_a l0_1 x3_2).f9) ((a_a l0_1 x3_2).f10)) else (none)) else (none)) else (a_l.j2 k2 x3_2 false a0_0 l0_1 ((a_a l0_1 x3_2).f0) ((a_a l0_1 x3_2).f1) ((a_a l0_1 x3_2).f2) ((a_a l0_1 x3_2).f3) ((a_a l0_1 x3_2).f4) ((a_a l0_1 x3_2).f5) ((a_a l0_1 x3_2).f6) ((a_a l0_1 x3_2).f7) ((a_a l0_1 x3_2).f8) ((a_a l0_1 x3_2).f9) ((a_a l0_1 x3_2).f10))) else (a_l.j2 k2 x3_2 true a0_0 l0_1 ((a_a l0_1 x3_2).f0) ((a_a l0_1 x3_2).f1) ((a_a l0_1 x3_2).f2) ((a_a l0_1 x3_2).f3) ((a_a l0_1 x3_2).f4) ((a_a l0_1 x3_2).f5) ((a_a l0_1 x3_2).f6) ((a_a l0_1 x3_2).f7) ((a_a l0_1 x3_2).f8) ((a_a l0_1 x3_2).f9) ((a_a l0_1 x3_2).f10))) = some r:=H
      have A15:=a_g.mk A150
      clear A150
      by_cases c16 : t213 = true
      rotate_left
      ·replace c16:=Bool.eq_false_iff.mpr c16
       subst c16
       have H1 : (a_l.j2 k2 x3_2 true a0_0 l0_1 ((a_a l0_1 x3_2).f0) ((a_a l0_1 x3_2).f1) ((a_a l0_1 x3_2).f2) ((a_a l0_1 x3_2).f3) ((a_a l0_1 x3_2).f4) ((a_a l0_1 x3_2).f5) ((a_a l0_1 x3_2).f6) ((a_a l0_1 x3_2).f7) ((a_a l0_1 x3_2).f8) ((a_a l0_1 x3_2).f9) ((a_a l0_1 x3_2).f10)) = some r:=by rw [if_neg (show ¬ (false = true) by decide)] at H;exact H
       clear H
       have H:=H1
       clear H1
       have H':=a_g.mk H
       clear H
       try go_wp2
       have n0_ : a_g ((((((((((((w12.setCell ⟨a_K,0,none⟩ (.int .i64 ((a_a l0_1 x3_2).f0))).setCell ⟨a_K,1,none⟩ (.int .i64 ((a_a l0_1 x3_2).f1))).setCell ⟨a_K,2,none⟩ (.int .i64 ((a_a l0_1 x3_2).f2))).setCell ⟨a_K,3,none⟩ (.int .i64 ((a_a l0_1 x3_2).f3))).setCell ⟨a_K,4,none⟩ (.int .i64 ((a_a l0_1 x3_2).f4))).setCell ⟨a_K,5,none⟩ (.bool ((a_a l0_1 x3_2).f5))).setCell ⟨a_K,6,none⟩ (.bool ((a_a l0_1 x3_2).f6))).setCell ⟨a_K,7,none⟩ (.int .u32 ((a_a l0_1 x3_2).f7))).setCell ⟨a_K,8,none⟩ (.int .i64 ((a_a l0_1 x3_2).f8))).setCell ⟨a_K,9,none⟩ (.int .i64 ((a_a l0_1 x3_2).f9))).setCell ⟨a_K,10,none⟩ (.int .i64 ((a_a l0_1 x3_2).f10))).heap[d_c]? = some (.cells #[.int .i64 a0_0,.slice (some ad211) l0_1.length c0_1] 24 (0,0))):=⟨by (with_reducible repeat (first|refine a_e ?_ _|refine a_h ?_|refine a_d ?_ _));refine a_o ?_ b_f.out _;(with_reducible repeat (first|refine a_e ?_ _|refine a_h ?_|refine a_d ?_ _));refine a_o ?_ b_f.out _;(with_reducible repeat (first|refine a_e ?_ _|refine a_h ?_|refine a_d ?_ _));refine a_o ?_ b_f.out _;(with_reducible repeat (first|refine a_e ?_ _|refine a_h ?_|refine a_d ?_ _));refine a_o ?_ b_f.out _;(with_reducible repeat (first|refine a_e ?_ _|refine a_h ?_|refine a_d ?_ _));refine a_o ?_ b_f.out _;(with_reducible repeat (first|refine a_e ?_ _|refine a_h ?_|refine a_d ?_ _));refine a_o ?_ b_f.out _;(with_reducible repeat (first|refine a_e ?_ _|refine a_h ?_|refine a_d ?_ _));refine a_o ?_ b_f.out _;(with_reducible repeat (first|refine a_e ?_ _|refine a_h ?_|refine a_d ?_ _));refine a_o ?_ b_f.out _;(with_reducible repeat (first|refine a_e ?_ _|refine a_h ?_|refine a_d ?_ _));refine a_o ?_ b_f.out _;(with_reducible repeat (first|refine a_e ?_ _|refine a_h ?_|refine a_d ?_ _));refine a_o ?_ b_f.out _;(with_reducible repeat (first|refine a_e ?_ _|refine a_h ?_|refine a_d ?_ _));refine a_o ?_ b_f.out _;(with_reducible repeat (first|refine a_e ?_ _|refine a_h ?_|refine a_d ?_ _));exact b_m.out⟩
       have n1_ : a_g ((((((((((((w12.setCell ⟨a_K,0,none⟩ (.int .i64 ((a_a l0_1 x3_2).f0))).setCell ⟨a_K,1,none⟩ (.int .i64 ((a_a l0_1 x3_2).f1))).setCell ⟨a_K,2,none⟩ (.int .i64 ((a_a l0_1 x3_2).f2))).setCell ⟨a_K,3,none⟩ (.int .i64 ((a_a l0_1 x3_2).f3))).setCell ⟨a_K,4,none⟩ (.int .i64 ((a_a l0_1 x3_2).f4))).setCell ⟨a_K,5,none⟩ (.bool ((a_a l0_1 x3_2).f5))).setCell ⟨a_K,6,none⟩ (.bool ((a_a l0_1 x3_2).f6))).setCell ⟨a_K,7,none⟩ (.int .u32 ((a_a l0_1 x3_2).f7))).setCell ⟨a_K,8,none⟩ (.int .i64 ((a_a l0_1 x3_2).f8))).setCell ⟨a_K,9,none⟩ (.int .i64 ((a_a l0_1 x3_2).f9))).setCell ⟨a_K,10,none⟩ (.int .i64 ((a_a l0_1 x3_2).f10))).heap[a_K]? = some (.cells #[.int .i64 ((a_a l0_1 x3_2).f0),.int .i64 ((a_a l0_1 x3_2).f1),.int .i64 ((a_a l0_1 x3_2).f2),.int .i64 ((a_a l0_1 x3_2).f3),.int .i64 ((a_a l0_1 x3_2).f4),.bool ((a_a l0_1 x3_2).f5),.bool ((a_a l0_1 x3_2).f6),.int .u32 ((a_a l0_1 x3_2).f7),.int .i64 ((a_a l0_1 x3_2).f8),.int .i64 ((a_a l0_1 x3_2).f9),.int .i64 ((a_a l0_1 x3_2).f10)] 33 (0,0))):=⟨by (with_reducible repeat (first|refine a_e ?_ _|refine a_h ?_|refine a_d ?_ _));refine a_r (cs:=#[.int .i64 ((a_a l0_1 x3_2).f0),.int .i64 ((a_a l0_1 x3_2).f1),.int .i64 ((a_a l0_1 x3_2).f2),.int .i64 ((a_a l0_1 x3_2).f3),.int .i64 ((a_a l0_1 x3_2).f4),.bool ((a_a l0_1 x3_2).f5),.bool ((a_a l0_1 x3_2).f6),.int .u32 ((a_a l0_1 x3_2).f7),.int .i64 ((a_a l0_1 x3_2).f8),.int .i64 ((a_a l0_1 x3_2).f9),.int .i64 0]) ?_ 10 _ rfl;(with_reducible repeat (first|refine a_e ?_ _|refine a_h ?_|refine a_d ?_ _));refine a_r (cs:=#[.int .i64 ((a_a l0_1 x3_2).f0),.int .i64 ((a_a l0_1 x3_2).f1),.int .i64 ((a_a l0_1 x3_2).f2),.int .i64 ((a_a l0_1 x3_2).f3),.int .i64 ((a_a l0_1 x3_2).f4),.bool ((a_a l0_1 x3_2).f5),.bool ((a_a l0_1 x3_2).f6),.int .u32 ((a_a l0_1 x3_2).f7),.int .i64 ((a_a l0_1 x3_2).f8),.int .i64 0,.int .i64 0]) ?_ 9 _ rfl;(with_reducible repeat (first|refine a_e ?_ _|refine a_h ?_|refine a_d ?_ _));refine a_r (cs:=#[.int .i64 ((a_a l0_1 x3_2).f0),.int .i64 ((a_a l0_1 x3_2).f1),.int .i64 ((a_a l0_1 x3_2).f2),.int .i64 ((a_a l0_1 x3_2).f3),.int .i64 ((a_a l0_1 x3_2).f4),.bool ((a_a l0_1 x3_2).f5),.bool ((a_a l0_1 x3_2).f6),.int .u32 ((a_a l0_1 x3_2).f7),.int .i64 0,.int .i64 0,.int .i64 0]) ?_ 8 _ rfl;(with_reducible repeat (first|refine a_e ?_ _|refine a_h ?_|refine a_d ?_ _));refine a_r (cs:=#[.int .i64 ((a_a l0_1 x3_2).f0),.int .i64 ((a_a l0_1 x3_2).f1),.int .i64 ((a_a l0_1 x3_2).f2),.int .i64 ((a_a l0_1 x3_2).f3),.int .i64 ((a_a l0_1 x3_2).f4),.bool ((a_a l0_1 x3_2).f5),.bool ((a_a l0_1 x3_2).f6),.int .u32 0,.int .i64 0,.int .i64 0,.int .i64 0]) ?_ 7 _ rfl;(with_reducible repeat (first|refine a_e ?_ _|refine a_h ?_|refine a_d ?_ _));refine a_r (cs:=#[.int .i64 ((a_a l0_1 x3_2).f0),.int .i64 ((a_a l0_1 x3_2).f1),.int .i64 ((a_a l0_1 x3_2).f2),.int .i64 ((a_a l0_1 x3_2).f3),.int .i64 ((a_a l0_1 x3_2).f4),.bool ((a_a l0_1 x3_2).f5),.bool false,.int .u32 0,.int .i64 0,.int .i64 0,.int .i64 0]) ?_ 6 _ rfl;(with_reducible repeat (first|refine a_e ?_ _|refine a_h ?_|refine a_d ?_ _));refine a_r (cs:=#[.int .i64 ((a_a l0_1 x3_2).f0),.int .i64 ((a_a l0_1 x3_2).f1),.int .i64 ((a_a l0_1 x3_2).f2),.int .i64 ((a_a l0_1 x3_2).f3),.int .i64 ((a_a l0_1 x3_2).f4),.bool false,.bool false,.int .u32 0,.int .i64 0,.int .i64 0,.int .i64 0]) ?_ 5 _ rfl;(with_reducible repeat (first|refine a_e ?_ _|refine a_h ?_|refine a_d ?_ _));refine a_r (cs:=#[.int .i64 ((a_a l0_1 x3_2).f0),.int .i64 ((a_a l0_1 x3_2).f1),.int .i64 ((a_a l0_1 x3_2).f2),.int .i64 ((a_a l0_1 x3_2).f3),.int .i64 0,.bool false,.bool false,.int .u32 0,.int .i64 0,.int .i64 0,.int .i64 0]) ?_ 4 _ rfl;(with_reducible repeat (first|refine a_e ?_ _|refine a_h ?_|refine a_d ?_ _));refine a_r (cs:=#[.int .i64 ((a_a l0_1 x3_2).f0),.int .i64 ((a_a l0_1 x3_2).f1),.int .i64 ((a_a l0_1 x3_2).f2),.int .i64 0,.int .i64 0,.bool false,.bool false,.int .u32 0,.int .i64 0,.int .i64 0,.int .i64 0]) ?_ 3 _ rfl;(with_reducible repeat (first|refine a_e ?_ _|refine a_h ?_|refine a_d ?_ _));refine a_r (cs:=#[.int .i64 ((a_a l0_1 x3_2).f0),.int .i64 ((a_a l0_1 x3_2).f1),.int .i64 0,.int .i64 0,.int .i64 0,.bool false,.bool false,.int .u32 0,.int .i64 0,.int .i64 0,.int .i64 0]) ?_ 2 _ rfl;(with_reducible repeat (first|refine a_e ?_ _|refine a_h ?_|refine a_d ?_ _));refine a_r (cs:=#[.int .i64 ((a_a l0_1 x3_2).f0),.int .i64 0,.int .i64 0,.int .i64 0,.int .i64 0,.bool false,.bool false,.int .u32 0,.int .i64 0,.int .i64 0,.int .i64 0]) ?_ 1 _ rfl;(with_reducible repeat (first|refine a_e ?_ _|refine a_h ?_|refine a_d ?_ _));refine a_r (cs:=#[.int .i64 0,.int .i64 0,.int .i64 0,.int .i64 0,.int .i64 0,.bool false,.bool false,.int .u32 0,.int .i64 0,.int .i64 0,.int .i64 0]) ?_ 0 _ rfl;(with_reducible repeat (first|refine a_e ?_ _|refine a_h ?_|refine a_d ?_ _));exact a_H.out⟩
       have n2_ : a_g (Below w.heap.size w (((((((((((w12.setCell ⟨a_K,0,none⟩ (.int .i64 ((a_a l0_1 x3_2).f0))).setCell ⟨a_K,1,none⟩ (.int .i64 ((a_a l0_1 x3_2).f1))).setCell ⟨a_K,2,none⟩ (.int .i64 ((a_a l0_1 x3_2).f2))).setCell ⟨a_K,3,none⟩ (.int .i64 ((a_a l0_1 x3_2).f3))).setCell ⟨a_K,4,none⟩ (.int .i64 ((a_a l0_1 x3_2).f4))).setCell ⟨a_K,5,none⟩ (.bool ((a_a l0_1 x3_2).f5))).setCell ⟨a_K,6,none⟩ (.bool ((a_a l0_1 x3_2).f6))).setCell ⟨a_K,7,none⟩ (.int .u32 ((a_a l0_1 x3_2).f7))).setCell ⟨a_K,8,none⟩ (.int .i64 ((a_a l0_1 x3_2).f8))).setCell ⟨a_K,9,none⟩ (.int .i64 ((a_a l0_1 x3_2).f9))).setCell ⟨a_K,10,none⟩ (.int .i64 ((a_a l0_1 x3_2).f10)))):=⟨by repeat (first|(with_reducible first|exact HB.out|apply a_j|apply a_f|apply a_k|refine a_i ?_ d_i.out|refine a_i ?_ d_Y.out)|exact HB.out)⟩
       (try clear b_m)
       (try clear a_H)
       (try clear HB)
       generalize (((((((((((w12.setCell ⟨a_K,0,none⟩ (.int .i64 ((a_a l0_1 x3_2).f0))).setCell ⟨a_K,1,none⟩ (.int .i64 ((a_a l0_1 x3_2).f1))).setCell ⟨a_K,2,none⟩ (.int .i64 ((a_a l0_1 x3_2).f2))).setCell ⟨a_K,3,none⟩ (.int .i64 ((a_a l0_1 x3_2).f3))).setCell ⟨a_K,4,none⟩ (.int .i64 ((a_a l0_1 x3_2).f4))).setCell ⟨a_K,5,none⟩ (.bool ((a_a l0_1 x3_2).f5))).setCell ⟨a_K,6,none⟩ (.bool ((a_a l0_1 x3_2).f6))).setCell ⟨a_K,7,none⟩ (.int .u32 ((a_a l0_1 x3_2).f7))).setCell ⟨a_K,8,none⟩ (.int .i64 ((a_a l0_1 x3_2).f8))).setCell ⟨a_K,9,none⟩ (.int .i64 ((a_a l0_1 x3_2).f9))).setCell ⟨a_K,10,none⟩ (.int .i64 ((a_a l0_1 x3_2).f10))) = w27 at n0_ n1_ n2_ ⊢
       have b_m:=n0_
       have a_H:=n1_
       have HB:=n2_
       clear n0_ n1_ n2_
       replace b_m:=a_g.mk (a_h b_m.out)
       replace a_H:=a_g.mk (a_h a_H.out)
       replace HB:=a_g.mk (a_k HB.out)
       refine d_p (n:=19) (S:=fun w' => w'.cell? ⟨a_K,0,none⟩ = some (.int .i64 ((a_a l0_1 x3_2).f0)) ∧ w'.cell? ⟨a_K,1,none⟩ = some (.int .i64 ((a_a l0_1 x3_2).f1)) ∧ w'.cell? ⟨a_K,2,none⟩ = some (.int .i64 ((a_a l0_1 x3_2).f2)) ∧ w'.cell? ⟨a_K,3,none⟩ = some (.int .i64 ((a_a l0_1 x3_2).f3)) ∧ w'.cell? ⟨a_K,4,none⟩ = some (.int .i64 ((a_a l0_1 x3_2).f4)) ∧ w'.cell? ⟨a_K,5,none⟩ = some (.bool ((a_a l0_1 x3_2).f5)) ∧ w'.cell? ⟨a_K,6,none⟩ = some (.bool ((a_a l0_1 x3_2).f6)) ∧ w'.cell? ⟨a_K,7,none⟩ = some (.int .u32 ((a_a l0_1 x3_2).f7)) ∧ w'.cell? ⟨a_K,8,none⟩ = some (.int .i64 ((a_a l0_1 x3_2).f8)) ∧ w'.cell? ⟨a_K,9,none⟩ = some (.int .i64 ((a_a l0_1 x3_2).f9)) ∧ w'.cell? ⟨a_K,10,none⟩ = some (.int .i64 ((a_a l0_1 x3_2).f10))) (ds:=[]) Z2_ (by kernel_rfl) rfl rfl ⟨(a_b a_H.out 0).trans rfl,(a_b a_H.out 1).trans rfl,(a_b a_H.out 2).trans rfl,(a_b a_H.out 3).trans rfl,(a_b a_H.out 4).trans rfl,(a_b a_H.out 5).trans rfl,(a_b a_H.out 6).trans rfl,(a_b a_H.out 7).trans rfl,(a_b a_H.out 8).trans rfl,(a_b a_H.out 9).trans rfl,(a_b a_H.out 10).trans rfl⟩ (fun hHeld => ?_);refine b_T a_l.tab7 a_l.o_W (fun HT_ HW_ => ?_)
       generalize w27.drew = w28 at b_m a_H HB hHeld ⊢
       refine b_z (i:=0) (N:=some 28) (v:=?_) (a':=?_) Z6_ rfl rfl (a_N HT_.out HW_.out (by kernel_rfl)) (fun _ _ _ h => h) (Or.inl ⟨by rfl,?_⟩) hHeld ?_ ?_
       rotate_left
       ·rintro w' ⟨s0,s1,s2,s3,s4,s5,s6,s7,s8,s9,s10⟩
        go_simp
        with_reducible rfl
       rotate_left
       ·simp only [Act.put,sa_,sb_,sc_,a_0,a_1]
        rfl
       refine one_ (i:=1) (N:=some 29) Z12_ rfl rfl (b_W HT_.out (by kernel_rfl)) (by decide) (fun K hK => ?_)
       refine d_f Tryd.func26 (by kernel_rfl) rfl #[.agg #[.int .i64 ((a_a l0_1 x3_2).f0),.int .i64 ((a_a l0_1 x3_2).f1),.int .i64 ((a_a l0_1 x3_2).f2),.int .i64 ((a_a l0_1 x3_2).f3),.int .i64 ((a_a l0_1 x3_2).f4),.bool ((a_a l0_1 x3_2).f5),.bool ((a_a l0_1 x3_2).f6),.int .u32 ((a_a l0_1 x3_2).f7),.int .i64 ((a_a l0_1 x3_2).f8),.int .i64 ((a_a l0_1 x3_2).f9),.int .i64 ((a_a l0_1 x3_2).f10)]] (by rfl) rfl rfl (by (try simp only [List.map_toArray,List.map_cons,List.map_nil]);first|done|rfl|(simp only [List.length_drop,List.length_take];rfl)) ?_
       with_reducible refine (b_E.calls ((a_a l0_1 x3_2).f0) ((a_a l0_1 x3_2).f1) ((a_a l0_1 x3_2).f2) ((a_a l0_1 x3_2).f3) ((a_a l0_1 x3_2).f4) ((a_a l0_1 x3_2).f5) ((a_a l0_1 x3_2).f6) ((a_a l0_1 x3_2).f7) ((a_a l0_1 x3_2).f8) ((a_a l0_1 x3_2).f9) ((a_a l0_1 x3_2).f10) false _ A15.out).mono ?_
       rintro e w29 ⟨rfl,hb⟩
       refine ⟨_,rfl,?_⟩
       replace b_m:=a_g.mk (a_m (bup_ b_m.out) hb)
       replace a_H:=a_g.mk (a_m (bup_ a_H.out) hb)
       replace HB:=a_g.mk (a_p (by repeat (first|(with_reducible first|exact HB.out|apply a_j|apply a_f|apply a_k|refine a_i ?_ d_i.out|refine a_i ?_ d_Y.out)|exact HB.out)) hb)
       (try clear hb)
       (try clear hb2)
       (try clear hk)
       (try clear hi)
       refine hK.out _ _ ⟨(a_b a_H.out 0).trans rfl,(a_b a_H.out 1).trans rfl,(a_b a_H.out 2).trans rfl,(a_b a_H.out 3).trans rfl,(a_b a_H.out 4).trans rfl,(a_b a_H.out 5).trans rfl,(a_b a_H.out 6).trans rfl,(a_b a_H.out 7).trans rfl,(a_b a_H.out 8).trans rfl,(a_b a_H.out 9).trans rfl,(a_b a_H.out 10).trans rfl⟩ (fun hHeld => ?_)
       clear hK K
       refine c_N (a':=?_) ?_ ?_
       rotate_left
       ·show Act.put _ (some 29) _ = _
        simp only [Act.put,sa_,sb_,sc_,a_0,a_1]
        rfl
       refine pt_ 2 (some 30) Z15_ HT_ ?_
       refine pt_ 3 (some 31) Z19_ HT_ ?_
       refine pk_ 4 (some 32) Z22_ HT_ ?_
       refine pk_ 5 (some 33) Z26_ HT_ ?_
       refine pk_ 6 (some 34) Z30_ HT_ ?_
       refine pk_ 7 (some 35) Z34_ HT_ ?_
       refine pk_ 8 (some 36) Z41_ HT_ ?_
       refine pk_ 9 (some 37) Z44_ HT_ ?_
       refine pk_ 10 (some 38) Z47_ HT_ ?_
       refine pk_ 11 (some 39) Z51_ HT_ ?_
       refine pk_ 12 (some 40) Z55_ HT_ ?_
       refine pk_ 13 (some 41) Z59_ HT_ ?_
       refine pk_ 14 (some 42) Z62_ HT_ ?_
       refine pk_ 15 (some 43) Z68_ HT_ ?_
       refine pk_ 16 (some 44) Z71_ HT_ ?_
       refine pk_ 17 (some 45) Z75_ HT_ ?_
       refine pt_ 18 (some 46) t_h HT_ ?_
       refine e_U (c_E HT_.out (by kernel_rfl)) ?_
       try go_wp2
       go_meet
       case rel => exact ⟨_,(true),(by first|rfl|(simp;done)|(simp [*];done)),H',⟨by have:=HJ1.out;have:=HK2.out;first|omega|exact Nat.le_refl _⟩,⟨by (with_reducible repeat (first|refine a_e ?_ _|refine a_h ?_|refine a_d ?_ _));exact b_m.out⟩,⟨by (with_reducible repeat (first|refine a_e ?_ _|refine a_h ?_|refine a_d ?_ _));exact a_H.out⟩,⟨by repeat (first|(with_reducible first|exact HB.out|apply a_j|apply a_f|apply a_k|refine a_i ?_ d_i.out|refine a_i ?_ d_Y.out)|exact HB.out)⟩⟩
      subst c16
      have H1 : (if x3_2 > 0 then (if 0 ≤ (wrap64 (x3_2 - 1)) then (if (wrap64 (x3_2 - 1)) < (l0_1.length : Int) then (a_l.j2 k2 x3_2 (decide (((a_a l0_1 (wrap64 (x3_2 - 1))).f0) ≥ ((a_a l0_1 x3_2).f0))) a0_0 l0_1 ((a_a l0_1 x3_2).f0) ((a_a l0_1 x3_2).f1) ((a_a l0_1 x3_2).f2) ((a_a l0_1 x3_2).f3) ((a_a l0_1 x3_2).f4) ((a_a l0_1 x3_2).f5) ((a_a l0_1 x3_2).f6) ((a_a l0_1 x3_2).f7) ((a_a l0_1 x3_2).f8) ((a_a l0_1 x3_2).f9) ((a_a l0_1 x3_2).f10)) else (none)) else (none)) else (a_l.j2 k2 x3_2 false a0_0 l0_1 ((a_a l0_1 x3_2).f0) ((a_a l0_1 x3_2).f1) ((a_a l0_1 x3_2).f2) ((a_a l0_1 x3_2).f3) ((a_a l0_1 x3_2).f4) ((a_a l0_1 x3_2).f5) ((a_a l0_1 x3_2).f6) ((a_a l0_1 x3_2).f7) ((a_a l0_1 x3_2).f8) ((a_a l0_1 x3_2).f9) ((a_a l0_1 x3_2).f10))) = some r:=by rw [if_pos rfl] at H;exact H
      clear H
      have H:=H1
      clear H1
      by_cases c17 : x3_2 > 0
      rotate_left
      ·rw [if_neg c17] at H
       have c17b0 : decide (0 < x3_2) = false:=decide_eq_false c17
       clear c17
       (first|rw [c17b0]|(simp only [a_0,a_1];rw [c17b0])|skip)
       have H':=a_g.mk H
       clear H
       try go_wp2
       have n0_ : a_g ((((((((((((w12.setCell ⟨a_K,0,none⟩ (.int .i64 ((a_a l0_1 x3_2).f0))).setCell ⟨a_K,1,none⟩ (.int .i64 ((a_a l0_1 x3_2).f1))).setCell ⟨a_K,2,none⟩ (.int .i64 ((a_a l0_1 x3_2).f2))).setCell ⟨a_K,3,none⟩ (.int .i64 ((a_a l0_1 x3_2).f3))).setCell ⟨a_K,4,none⟩ (.int .i64 ((a_a l0_1 x3_2).f4))).setCell ⟨a_K,5,none⟩ (.bool ((a_a l0_1 x3_2).f5))).setCell ⟨a_K,6,none⟩ (.bool ((a_a l0_1 x3_2).f6))).setCell ⟨a_K,7,none⟩ (.int .u32 ((a_a l0_1 x3_2).f7))).setCell ⟨a_K,8,none⟩ (.int .i64 ((a_a l0_1 x3_2).f8))).setCell ⟨a_K,9,none⟩ (.int .i64 ((a_a l0_1 x3_2).f9))).setCell ⟨a_K,10,none⟩ (.int .i64 ((a_a l0_1 x3_2).f10))).heap[d_c]? = some (.cells #[.int .i64 a0_0,.slice (some ad211) l0_1.length c0_1] 24 (0,0))):=⟨by (with_reducible repeat (first|refine a_e ?_ _|refine a_h ?_|refine a_d ?_ _));refine a_o ?_ b_f.out _;(with_reducible repeat (first|refine a_e ?_ _|refine a_h ?_|refine a_d ?_ _));refine a_o ?_ b_f.out _;(with_reducible repeat (first|refine a_e ?_ _|refine a_h ?_|refine a_d ?_ _));refine a_o ?_ b_f.out _;(with_reducible repeat (first|refine a_e ?_ _|refine a_h ?_|refine a_d ?_ _));refine a_o ?_ b_f.out _;(with_reducible repeat (first|refine a_e ?_ _|refine a_h ?_|refine a_d ?_ _));refine a_o ?_ b_f.out _;(with_reducible repeat (first|refine a_e ?_ _|refine a_h ?_|refine a_d ?_ _));refine a_o ?_ b_f.out _;(with_reducible repeat (first|refine a_e ?_ _|refine a_h ?_|refine a_d ?_ _));refine a_o ?_ b_f.out _;(with_reducible repeat (first|refine a_e ?_ _|refine a_h ?_|refine a_d ?_ _));refine a_o ?_ b_f.out _;(with_reducible repeat (first|refine a_e ?_ _|refine a_h ?_|refine a_d ?_ _));refine a_o ?_ b_f.out _;(with_reducible repeat (first|refine a_e ?_ _|refine a_h ?_|refine a_d ?_ _));refine a_o ?_ b_f.out _;(with_reducible repeat (first|refine a_e ?_ _|refine a_h ?_|refine a_d ?_ _));refine a_o ?_ b_f.out _;(with_reducible repeat (first|refine a_e ?_ _|refine a_h ?_|refine a_d ?_ _));exact b_m.out⟩
       have n1_ : a_g ((((((((((((w12.setCell ⟨a_K,0,none⟩ (.int .i64 ((a_a l0_1 x3_2).f0))).setCell ⟨a_K,1,none⟩ (.int .i64 ((a_a l0_1 x3_2).f1))).setCell ⟨a_K,2,none⟩ (.int .i64 ((a_a l0_1 x3_2).f2))).setCell ⟨a_K,3,none⟩ (.int .i64 ((a_a l0_1 x3_2).f3))).setCell ⟨a_K,4,none⟩ (.int .i64 ((a_a l0_1 x3_2).f4))).setCell ⟨a_K,5,none⟩ (.bool ((a_a l0_1 x3_2).f5))).setCell ⟨a_K,6,none⟩ (.bool ((a_a l0_1 x3_2).f6))).setCell ⟨a_K,7,none⟩ (.int .u32 ((a_a l0_1 x3_2).f7))).setCell ⟨a_K,8,none⟩ (.int .i64 ((a_a l0_1 x3_2).f8))).setCell ⟨a_K,9,none⟩ (.int .i64 ((a_a l0_1 x3_2).f9))).setCell ⟨a_K,10,none⟩ (.int .i64 ((a_a l0_1 x3_2).f10))).heap[a_K]? = some (.cells #[.int .i64 ((a_a l0_1 x3_2).f0),.int .i64 ((a_a l0_1 x3_2).f1),.int .i64 ((a_a l0_1 x3_2).f2),.int .i64 ((a_a l0_1 x3_2).f3),.int .i64 ((a_a l0_1 x3_2).f4),.bool ((a_a l0_1 x3_2).f5),.bool ((a_a l0_1 x3_2).f6),.int .u32 ((a_a l0_1 x3_2).f7),.int .i64 ((a_a l0_1 x3_2).f8),.int .i64 ((a_a l0_1 x3_2).f9),.int .i64 ((a_a l0_1 x3_2).f10)] 33 (0,0))):=⟨by (with_reducible repeat (first|refine a_e ?_ _|refine a_h ?_|refine a_d ?_ _));refine a_r (cs:=#[.int .i64 ((a_a l0_1 x3_2).f0),.int .i64 ((a_a l0_1 x3_2).f1),.int .i64 ((a_a l0_1 x3_2).f2),.int .i64 ((a_a l0_1 x3_2).f3),.int .i64 ((a_a l0_1 x3_2).f4),.bool ((a_a l0_1 x3_2).f5),.bool ((a_a l0_1 x3_2).f6),.int .u32 ((a_a l0_1 x3_2).f7),.int .i64 ((a_a l0_1 x3_2).f8),.int .i64 ((a_a l0_1 x3_2).f9),.int .i64 0]) ?_ 10 _ rfl;(with_reducible repeat (first|refine a_e ?_ _|refine a_h ?_|refine a_d ?_ _));refine a_r (cs:=#[.int .i64 ((a_a l0_1 x3_2).f0),.int .i64 ((a_a l0_1 x3_2).f1),.int .i64 ((a_a l0_1 x3_2).f2),.int .i64 ((a_a l0_1 x3_2).f3),.int .i64 ((a_a l0_1 x3_2).f4),.bool ((a_a l0_1 x3_2).f5),.bool ((a_a l0_1 x3_2).f6),.int .u32 ((a_a l0_1 x3_2).f7),.int .i64 ((a_a l0_1 x3_2).f8),.int .i64 0,.int .i64 0]) ?_ 9 _ rfl;(with_reducible repeat (first|refine a_e ?_ _|refine a_h ?_|refine a_d ?_ _));refine a_r (cs:=#[.int .i64 ((a_a l0_1 x3_2).f0),.int .i64 ((a_a l0_1 x3_2).f1),.int .i64 ((a_a l0_1 x3_2).f2),.int .i64 ((a_a l0_1 x3_2).f3),.int .i64 ((a_a l0_1 x3_2).f4),.bool ((a_a l0_1 x3_2).f5),.bool ((a_a l0_1 x3_2).f6),.int .u32 ((a_a l0_1 x3_2).f7),.int .i64 0,.int .i64 0,.int .i64 0]) ?_ 8 _ rfl;(with_reducible repeat (first|refine a_e ?_ _|refine a_h ?_|refine a_d ?_ _));refine a_r (cs:=#[.int .i64 ((a_a l0_1 x3_2).f0),.int .i64 ((a_a l0_1 x3_2).f1),.int .i64 ((a_a l0_1 x3_2).f2),.int .i64 ((a_a l0_1 x3_2).f3),.int .i64 ((a_a l0_1 x3_2).f4),.bool ((a_a l0_1 x3_2).f5),.bool ((a_a l0_1 x3_2).f6),.int .u32 0,.int .i64 0,.int .i64 0,.int .i64 0]) ?_ 7 _ rfl;(with_reducible repeat (first|refine a_e ?_ _|refine a_h ?_|refine a_d ?_ _));refine a_r (cs:=#[.int .i64 ((a_a l0_1 x3_2).f0),.int .i64 ((a_a l0_1 x3_2).f1),.int .i64 ((a_a l0_1 x3_2).f2),.int .i64 ((a_a l0_1 x3_2).f3),.int .i64 ((a_a l0_1 x3_2).f4),.bool ((a_a l0_1 x3_2).f5),.bool false,.int .u32 0,.int .i64 0,.int .i64 0,.int .i64 0]) ?_ 6 _ rfl;(with_reducible repeat (first|refine a_e ?_ _|refine a_h ?_|refine a_d ?_ _));refine a_r (cs:=#[.int .i64 ((a_a l0_1 x3_2).f0),.int .i64 ((a_a l0_1 x3_2).f1),.int .i64 ((a_a l0_1 x3_2).f2),.int .i64 ((a_a l0_1 x3_2).f3),.int .i64 ((a_a l0_1 x3_2).f4),.bool false,.bool false,.int .u32 0,.int .i64 0,.int .i64 0,.int .i64 0]) ?_ 5 _ rfl;(with_reducible repeat (first|refine a_e ?_ _|refine a_h ?_|refine a_d ?_ _));refine a_r (cs:=#[.int .i64 ((a_a l0_1 x3_2).f0),.int .i64 ((a_a l0_1 x3_2).f1),.int .i64 ((a_a l0_1 x3_2).f2),.int .i64 ((a_a l0_1 x3_2).f3),.int .i64 0,.bool false,.bool false,.int .u32 0,.int .i64 0,.int .i64 0,.int .i64 0]) ?_ 4 _ rfl;(with_reducible repeat (first|refine a_e ?_ _|refine a_h ?_|refine a_d ?_ _));refine a_r (cs:=#[.int .i64 ((a_a l0_1 x3_2).f0),.int .i64 ((a_a l0_1 x3_2).f1),.int .i64 ((a_a l0_1 x3_2).f2),.int .i64 0,.int .i64 0,.bool false,.bool false,.int .u32 0,.int .i64 0,.int .i64 0,.int .i64 0]) ?_ 3 _ rfl;(with_reducible repeat (first|refine a_e ?_ _|refine a_h ?_|refine a_d ?_ _));refine a_r (cs:=#[.int .i64 ((a_a l0_1 x3_2).f0),.int .i64 ((a_a l0_1 x3_2).f1),.int .i64 0,.int .i64 0,.int .i64 0,.bool false,.bool false,.int .u32 0,.int .i64 0,.int .i64 0,.int .i64 0]) ?_ 2 _ rfl;(with_reducible repeat (first|refine a_e ?_ _|refine a_h ?_|refine a_d ?_ _));refine a_r (cs:=#[.int .i64 ((a_a l0_1 x3_2).f0),.int .i64 0,.int .i64 0,.int .i64 0,.int .i64 0,.bool false,.bool false,.int .u32 0,.int .i64 0,.int .i64 0,.int .i64 0]) ?_ 1 _ rfl;(with_reducible repeat (first|refine a_e ?_ _|refine a_h ?_|refine a_d ?_ _));refine a_r (cs:=#[.int .i64 0,.int .i64 0,.int .i64 0,.int .i64 0,.int .i64 0,.bool false,.bool false,.int .u32 0,.int .i64 0,.int .i64 0,.int .i64 0]) ?_ 0 _ rfl;(with_reducible repeat (first|refine a_e ?_ _|refine a_h ?_|refine a_d ?_ _));exact a_H.out⟩
       have n2_ : a_g (Below w.heap.size w (((((((((((w12.setCell ⟨a_K,0,none⟩ (.int .i64 ((a_a l0_1 x3_2).f0))).setCell ⟨a_K,1,none⟩ (.int .i64 ((a_a l0_1 x3_2).f1))).setCell ⟨a_K,2,none⟩ (.int .i64 ((a_a l0_1 x3_2).f2))).setCell ⟨a_K,3,none⟩ (.int .i64 ((a_a l0_1 x3_2).f3))).setCell ⟨a_K,4,none⟩ (.int .i64 ((a_a l0_1 x3_2).f4))).setCell ⟨a_K,5,none⟩ (.bool ((a_a l0_1 x3_2).f5))).setCell ⟨a_K,6,none⟩ (.bool ((a_a l0_1 x3_2).f6))).setCell ⟨a_K,7,none⟩ (.int .u32 ((a_a l0_1 x3_2).f7))).setCell ⟨a_K,8,none⟩ (.int .i64 ((a_a l0_1 x3_2).f8))).setCell ⟨a_K,9,none⟩ (.int .i64 ((a_a l0_1 x3_2).f9))).setCell ⟨a_K,10,none⟩ (.int .i64 ((a_a l0_1 x3_2).f10)))):=⟨by repeat (first|(with_reducible first|exact HB.out|apply a_j|apply a_f|apply a_k|refine a_i ?_ d_i.out|refine a_i ?_ d_Y.out)|exact HB.out)⟩
       (try clear b_m)
       (try clear a_H)
       (try clear HB)
       generalize (((((((((((w12.setCell ⟨a_K,0,none⟩ (.int .i64 ((a_a l0_1 x3_2).f0))).setCell ⟨a_K,1,none⟩ (.int .i64 ((a_a l0_1 x3_2).f1))).setCell ⟨a_K,2,none⟩ (.int .i64 ((a_a l0_1 x3_2).f2))).setCell ⟨a_K,3,none⟩ (.int .i64 ((a_a l0_1 x3_2).f3))).setCell ⟨a_K,4,none⟩ (.int .i64 ((a_a l0_1 x3_2).f4))).setCell ⟨a_K,5,none⟩ (.bool ((a_a l0_1 x3_2).f5))).setCell ⟨a_K,6,none⟩ (.bool ((a_a l0_1 x3_2).f6))).setCell ⟨a_K,7,none⟩ (.int .u32 ((a_a l0_1 x3_2).f7))).setCell ⟨a_K,8,none⟩ (.int .i64 ((a_a l0_1 x3_2).f8))).setCell ⟨a_K,9,none⟩ (.int .i64 ((a_a l0_1 x3_2).f9))).setCell ⟨a_K,10,none⟩ (.int .i64 ((a_a l0_1 x3_2).f10))) = w24 at n0_ n1_ n2_ ⊢
       have b_m:=n0_
       have a_H:=n1_
       have HB:=n2_
       clear n0_ n1_ n2_
       replace b_m:=a_g.mk (a_h b_m.out)
       replace a_H:=a_g.mk (a_h a_H.out)
       replace HB:=a_g.mk (a_k HB.out)
       refine d_p (n:=19) (S:=fun w' => w'.cell? ⟨a_K,0,none⟩ = some (.int .i64 ((a_a l0_1 x3_2).f0)) ∧ w'.cell? ⟨a_K,1,none⟩ = some (.int .i64 ((a_a l0_1 x3_2).f1)) ∧ w'.cell? ⟨a_K,2,none⟩ = some (.int .i64 ((a_a l0_1 x3_2).f2)) ∧ w'.cell? ⟨a_K,3,none⟩ = some (.int .i64 ((a_a l0_1 x3_2).f3)) ∧ w'.cell? ⟨a_K,4,none⟩ = some (.int .i64 ((a_a l0_1 x3_2).f4)) ∧ w'.cell? ⟨a_K,5,none⟩ = some (.bool ((a_a l0_1 x3_2).f5)) ∧ w'.cell? ⟨a_K,6,none⟩ = some (.bool ((a_a l0_1 x3_2).f6)) ∧ w'.cell? ⟨a_K,7,none⟩ = some (.int .u32 ((a_a l0_1 x3_2).f7)) ∧ w'.cell? ⟨a_K,8,none⟩ = some (.int .i64 ((a_a l0_1 x3_2).f8)) ∧ w'.cell? ⟨a_K,9,none⟩ = some (.int .i64 ((a_a l0_1 x3_2).f9)) ∧ w'.cell? ⟨a_K,10,none⟩ = some (.int .i64 ((a_a l0_1 x3_2).f10))) (ds:=[]) Z2_ (by kernel_rfl) rfl rfl ⟨(a_b a_H.out 0).trans rfl,(a_b a_H.out 1).trans rfl,(a_b a_H.out 2).trans rfl,(a_b a_H.out 3).trans rfl,(a_b a_H.out 4).trans rfl,(a_b a_H.out 5).trans rfl,(a_b a_H.out 6).trans rfl,(a_b a_H.out 7).trans rfl,(a_b a_H.out 8).trans rfl,(a_b a_H.out 9).trans rfl,(a_b a_H.out 10).trans rfl⟩ (fun hHeld => ?_);refine b_T a_l.tab7 a_l.o_W (fun HT_ HW_ => ?_)
       generalize w24.drew = w25 at b_m a_H HB hHeld ⊢
       refine b_z (i:=0) (N:=some 28) (v:=?_) (a':=?_) Z6_ rfl rfl (a_N HT_.out HW_.out (by kernel_rfl)) (fun _ _ _ h => h) (Or.inl ⟨by rfl,?_⟩) hHeld ?_ ?_
       rotate_left
       ·rintro w' ⟨s0,s1,s2,s3,s4,s5,s6,s7,s8,s9,s10⟩
        go_simp
        with_reducible rfl
       rotate_left
       ·simp only [Act.put,sa_,sb_,sc_,a_0,a_1]
        rfl
       refine one_ (i:=1) (N:=some 29) Z12_ rfl rfl (b_W HT_.out (by kernel_rfl)) (by decide) (fun K hK => ?_)
       refine d_f Tryd.func26 (by kernel_rfl) rfl #[.agg #[.int .i64 ((a_a l0_1 x3_2).f0),.int .i64 ((a_a l0_1 x3_2).f1),.int .i64 ((a_a l0_1 x3_2).f2),.int .i64 ((a_a l0_1 x3_2).f3),.int .i64 ((a_a l0_1 x3_2).f4),.bool ((a_a l0_1 x3_2).f5),.bool ((a_a l0_1 x3_2).f6),.int .u32 ((a_a l0_1 x3_2).f7),.int .i64 ((a_a l0_1 x3_2).f8),.int .i64 ((a_a l0_1 x3_2).f9),.int .i64 ((a_a l0_1 x3_2).f10)]] (by rfl) rfl rfl (by (try simp only [List.map_toArray,List.map_cons,List.map_nil]);first|done|rfl|(simp only [List.length_drop,List.length_take];rfl)) ?_
       with_reducible refine (b_E.calls ((a_a l0_1 x3_2).f0) ((a_a l0_1 x3_2).f1) ((a_a l0_1 x3_2).f2) ((a_a l0_1 x3_2).f3) ((a_a l0_1 x3_2).f4) ((a_a l0_1 x3_2).f5) ((a_a l0_1 x3_2).f6) ((a_a l0_1 x3_2).f7) ((a_a l0_1 x3_2).f8) ((a_a l0_1 x3_2).f9) ((a_a l0_1 x3_2).f10) true _ A15.out).mono ?_
       rintro e w26 ⟨rfl,hb⟩
       refine ⟨_,rfl,?_⟩
       replace b_m:=a_g.mk (a_m (bup_ b_m.out) hb)
       replace a_H:=a_g.mk (a_m (bup_ a_H.out) hb)
       replace HB:=a_g.mk (a_p (by repeat (first|(with_reducible first|exact HB.out|apply a_j|apply a_f|apply a_k|refine a_i ?_ d_i.out|refine a_i ?_ d_Y.out)|exact HB.out)) hb)
       (try clear hb)
       (try clear hb2)
       (try clear hk)
       (try clear hi)
       refine hK.out _ _ ⟨(a_b a_H.out 0).trans rfl,(a_b a_H.out 1).trans rfl,(a_b a_H.out 2).trans rfl,(a_b a_H.out 3).trans rfl,(a_b a_H.out 4).trans rfl,(a_b a_H.out 5).trans rfl,(a_b a_H.out 6).trans rfl,(a_b a_H.out 7).trans rfl,(a_b a_H.out 8).trans rfl,(a_b a_H.out 9).trans rfl,(a_b a_H.out 10).trans rfl⟩ (fun hHeld => ?_)
       clear hK K
       refine c_N (a':=?_) ?_ ?_
       rotate_left
       ·show Act.put _ (some 29) _ = _
        simp only [Act.put,sa_,sb_,sc_,a_0,a_1]
        rfl
       refine pt_ 2 (some 30) Z15_ HT_ ?_
       refine pt_ 3 (some 31) Z19_ HT_ ?_
       refine pt_ 4 (some 32) Z22_ HT_ ?_
       refine pt_ 5 (some 33) Z26_ HT_ ?_
       refine pt_ 6 (some 34) Z30_ HT_ ?_
       refine pk_ 7 (some 35) Z34_ HT_ ?_
       refine pk_ 8 (some 36) Z41_ HT_ ?_
       refine pk_ 9 (some 37) Z44_ HT_ ?_
       refine pk_ 10 (some 38) Z47_ HT_ ?_
       refine pk_ 11 (some 39) Z51_ HT_ ?_
       refine pk_ 12 (some 40) Z55_ HT_ ?_
       refine pk_ 13 (some 41) Z59_ HT_ ?_
       refine pk_ 14 (some 42) Z62_ HT_ ?_
       refine pk_ 15 (some 43) Z68_ HT_ ?_
       refine pk_ 16 (some 44) Z71_ HT_ ?_
       refine pt_ 17 (some 45) Z75_ HT_ ?_
       refine pt_ 18 (some 46) t_h HT_ ?_
       refine e_U (c_E HT_.out (by kernel_rfl)) ?_
       try go_wp2
       go_meet
       case rel => exact ⟨_,(false),(by first|rfl|(simp;done)|(simp [*];done)),H',⟨by have:=HJ1.out;have:=HK2.out;first|omega|exact Nat.le_refl _⟩,⟨by (with_reducible repeat (first|refine a_e ?_ _|refine a_h ?_|refine a_d ?_ _));exact b_m.out⟩,⟨by (with_reducible repeat (first|refine a_e ?_ _|refine a_h ?_|refine a_d ?_ _));exact a_H.out⟩,⟨by repeat (first|(with_reducible first|exact HB.out|apply a_j|apply a_f|apply a_k|refine a_i ?_ d_i.out|refine a_i ?_ d_Y.out)|exact HB.out)⟩⟩
      rw [if_pos c17] at H
      have c17b0 : decide (0 < x3_2) = true:=decide_eq_true c17
      clear c17
      (first|rw [c17b0]|(simp only [a_0,a_1];rw [c17b0])|skip)
      obtain ⟨ji18,hji18⟩ : ∃ j_ : Int,(wrap64 (x3_2 - 1)) = j_:=⟨_,rfl⟩
      replace H : (if 0 ≤ (ji18) then (if (ji18) < (l0_1.length : Int) then (a_l.j2 k2 x3_2 (decide (((a_a l0_1 (ji18)).f0) ≥ ((a_a l0_1 x3_2).f0))) a0_0 l0_1 ((a_a l0_1 x3_2).f0) ((a_a l0_1 x3_2).f1) ((a_a l0_1 x3_2).f2) ((a_a l0_1 x3_2).f3) ((a_a l0_1 x3_2).f4) ((a_a l0_1 x3_2).f5) ((a_a l0_1 x3_2).f6) ((a_a l0_1 x3_2).f7) ((a_a l0_1 x3_2).f8) ((a_a l0_1 x3_2).f9) ((a_a l0_1 x3_2).f10)) else (none)) else (none)) = some r:=by first|(rw [hji18] at H;exact H)|(simp only [hji18] at H ⊢; exact H)
      (try rw [hji18] at A15)
      have hji18w : (IntKind.i64.wrap (x3_2 - 1)) = ji18:=(a_0 _).trans hji18
      by_cases c19 : 0 ≤ (ji18)
      rotate_left
      ·rw [if_neg c19] at H
       exact absurd H (by simp)
      rw [if_pos c19] at H
      have c19b0 : decide (0 ≤ (ji18)) = true:=decide_eq_true c19
      clear c19
      by_cases c20 : (ji18) < (l0_1.length : Int)
      rotate_left
      ·rw [if_neg c20] at H
       exact absurd H (by simp)
      rw [if_pos c20] at H
      have c20b0 : decide ((ji18) < (l0_1.length : Int)) = true:=decide_eq_true c20
      clear c20
      have H':=a_g.mk H
      clear H
      try go_wp2
      have n0_ : a_g ((((((((((((w12.setCell ⟨a_K,0,none⟩ (.int .i64 ((a_a l0_1 x3_2).f0))).setCell ⟨a_K,1,none⟩ (.int .i64 ((a_a l0_1 x3_2).f1))).setCell ⟨a_K,2,none⟩ (.int .i64 ((a_a l0_1 x3_2).f2))).setCell ⟨a_K,3,none⟩ (.int .i64 ((a_a l0_1 x3_2).f3))).setCell ⟨a_K,4,none⟩ (.int .i64 ((a_a l0_1 x3_2).f4))).setCell ⟨a_K,5,none⟩ (.bool ((a_a l0_1 x3_2).f5))).setCell ⟨a_K,6,none⟩ (.bool ((a_a l0_1 x3_2).f6))).setCell ⟨a_K,7,none⟩ (.int .u32 ((a_a l0_1 x3_2).f7))).setCell ⟨a_K,8,none⟩ (.int .i64 ((a_a l0_1 x3_2).f8))).setCell ⟨a_K,9,none⟩ (.int .i64 ((a_a l0_1 x3_2).f9))).setCell ⟨a_K,10,none⟩ (.int .i64 ((a_a l0_1 x3_2).f10))).heap[d_c]? = some (.cells #[.int .i64 a0_0,.slice (some ad211) l0_1.length c0_1] 24 (0,0))):=⟨by (with_reducible repeat (first|refine a_e ?_ _|refine a_h ?_|refine a_d ?_ _));refine a_o ?_ b_f.out _;(with_reducible repeat (first|refine a_e ?_ _|refine a_h ?_|refine a_d ?_ _));refine a_o ?_ b_f.out _;(with_reducible repeat (first|refine a_e ?_ _|refine a_h ?_|refine a_d ?_ _));refine a_o ?_ b_f.out _;(with_reducible repeat (first|refine a_e ?_ _|refine a_h ?_|refine a_d ?_ _));refine a_o ?_ b_f.out _;(with_reducible repeat (first|refine a_e ?_ _|refine a_h ?_|refine a_d ?_ _));refine a_o ?_ b_f.out _;(with_reducible repeat (first|refine a_e ?_ _|refine a_h ?_|refine a_d ?_ _));refine a_o ?_ b_f.out _;(with_reducible repeat (first|refine a_e ?_ _|refine a_h ?_|refine a_d ?_ _));refine a_o ?_ b_f.out _;(with_reducible repeat (first|refine a_e ?_ _|refine a_h ?_|refine a_d ?_ _));refine a_o ?_ b_f.out _;(with_reducible repeat (first|refine a_e ?_ _|refine a_h ?_|refine a_d ?_ _));refine a_o ?_ b_f.out _;(with_reducible repeat (first|refine a_e ?_ _|refine a_h ?_|refine a_d ?_ _));refine a_o ?_ b_f.out _;(with_reducible repeat (first|refine a_e ?_ _|refine a_h ?_|refine a_d ?_ _));refine a_o ?_ b_f.out _;(with_reducible repeat (first|refine a_e ?_ _|refine a_h ?_|refine a_d ?_ _));exact b_m.out⟩
      have n1_ : a_g ((((((((((((w12.setCell ⟨a_K,0,none⟩ (.int .i64 ((a_a l0_1 x3_2).f0))).setCell ⟨a_K,1,none⟩ (.int .i64 ((a_a l0_1 x3_2).f1))).setCell ⟨a_K,2,none⟩ (.int .i64 ((a_a l0_1 x3_2).f2))).setCell ⟨a_K,3,none⟩ (.int .i64 ((a_a l0_1 x3_2).f3))).setCell ⟨a_K,4,none⟩ (.int .i64 ((a_a l0_1 x3_2).f4))).setCell ⟨a_K,5,none⟩ (.bool ((a_a l0_1 x3_2).f5))).setCell ⟨a_K,6,none⟩ (.bool ((a_a l0_1 x3_2).f6))).setCell ⟨a_K,7,none⟩ (.int .u32 ((a_a l0_1 x3_2).f7))).setCell ⟨a_K,8,none⟩ (.int .i64 ((a_a l0_1 x3_2).f8))).setCell ⟨a_K,9,none⟩ (.int .i64 ((a_a l0_1 x3_2).f9))).setCell ⟨a_K,10,none⟩ (.int .i64 ((a_a l0_1 x3_2).f10))).heap[a_K]? = some (.cells #[.int .i64 ((a_a l0_1 x3_2).f0),.int .i64 ((a_a l0_1 x3_2).f1),.int .i64 ((a_a l0_1 x3_2).f2),.int .i64 ((a_a l0_1 x3_2).f3),.int .i64 ((a_a l0_1 x3_2).f4),.bool ((a_a l0_1 x3_2).f5),.bool ((a_a l0_1 x3_2).f6),.int .u32 ((a_a l0_1 x3_2).f7),.int .i64 ((a_a l0_1 x3_2).f8),.int .i64 ((a_a l0_1 x3_2).f9),.int .i64 ((a_a l0_1 x3_2).f10)] 33 (0,0))):=⟨by (with_reducible repeat (first|refine a_e ?_ _|refine a_h ?_|refine a_d ?_ _));refine a_r (cs:=#[.int .i64 ((a_a l0_1 x3_2).f0),.int .i64 ((a_a l0_1 x3_2).f1),.int .i64 ((a_a l0_1 x3_2).f2),.int .i64 ((a_a l0_1 x3_2).f3),.int .i64 ((a_a l0_1 x3_2).f4),.bool ((a_a l0_1 x3_2).f5),.bool ((a_a l0_1 x3_2).f6),.int .u32 ((a_a l0_1 x3_2).f7),.int .i64 ((a_a l0_1 x3_2).f8),.int .i64 ((a_a l0_1 x3_2).f9),.int .i64 0]) ?_ 10 _ rfl;(with_reducible repeat (first|refine a_e ?_ _|refine a_h ?_|refine a_d ?_ _));refine a_r (cs:=#[.int .i64 ((a_a l0_1 x3_2).f0),.int .i64 ((a_a l0_1 x3_2).f1),.int .i64 ((a_a l0_1 x3_2).f2),.int .i64 ((a_a l0_1 x3_2).f3),.int .i64 ((a_a l0_1 x3_2).f4),.bool ((a_a l0_1 x3_2).f5),.bool ((a_a l0_1 x3_2).f6),.int .u32 ((a_a l0_1 x3_2).f7),.int .i64 ((a_a l0_1 x3_2).f8),.int .i64 0,.int .i64 0]) ?_ 9 _ rfl;(with_reducible repeat (first|refine a_e ?_ _|refine a_h ?_|refine a_d ?_ _));refine a_r (cs:=#[.int .i64 ((a_a l0_1 x3_2).f0),.int .i64 ((a_a l0_1 x3_2).f1),.int .i64 ((a_a l0_1 x3_2).f2),.int .i64 ((a_a l0_1 x3_2).f3),.int .i64 ((a_a l0_1 x3_2).f4),.bool ((a_a l0_1 x3_2).f5),.bool ((a_a l0_1 x3_2).f6),.int .u32 ((a_a l0_1 x3_2).f7),.int .i64 0,.int .i64 0,.int .i64 0]) ?_ 8 _ rfl;(with_reducible repeat (first|refine a_e ?_ _|refine a_h ?_|refine a_d ?_ _));refine a_r (cs:=#[.int .i64 ((a_a l0_1 x3_2).f0),.int .i64 ((a_a l0_1 x3_2).f1),.int .i64 ((a_a l0_1 x3_2).f2),.int .i64 ((a_a l0_1 x3_2).f3),.int .i64 ((a_a l0_1 x3_2).f4),.bool ((a_a l0_1 x3_2).f5),.bool ((a_a l0_1 x3_2).f6),.int .u32 0,.int .i64 0,.int .i64 0,.int .i64 0]) ?_ 7 _ rfl;(with_reducible repeat (first|refine a_e ?_ _|refine a_h ?_|refine a_d ?_ _));refine a_r (cs:=#[.int .i64 ((a_a l0_1 x3_2).f0),.int .i64 ((a_a l0_1 x3_2).f1),.int .i64 ((a_a l0_1 x3_2).f2),.int .i64 ((a_a l0_1 x3_2).f3),.int .i64 ((a_a l0_1 x3_2).f4),.bool ((a_a l0_1 x3_2).f5),.bool false,.int .u32 0,.int .i64 0,.int .i64 0,.int .i64 0]) ?_ 6 _ rfl;(with_reducible repeat (first|refine a_e ?_ _|refine a_h ?_|refine a_d ?_ _));refine a_r (cs:=#[.int .i64 ((a_a l0_1 x3_2).f0),.int .i64 ((a_a l0_1 x3_2).f1),.int .i64 ((a_a l0_1 x3_2).f2),.int .i64 ((a_a l0_1 x3_2).f3),.int .i64 ((a_a l0_1 x3_2).f4),.bool false,.bool false,.int .u32 0,.int .i64 0,.int .i64 0,.int .i64 0]) ?_ 5 _ rfl;(with_reducible repeat (first|refine a_e ?_ _|refine a_h ?_|refine a_d ?_ _));refine a_r (cs:=#[.int .i64 ((a_a l0_1 x3_2).f0),.int .i64 ((a_a l0_1 x3_2).f1),.int .i64 ((a_a l0_1 x3_2).f2),.int .i64 ((a_a l0_1 x3_2).f3),.int .i64 0,.bool false,.bool false,.int .u32 0,.int .i64 0,.int .i64 0,.int .i64 0]) ?_ 4 _ rfl;(with_reducible repeat (first|refine a_e ?_ _|refine a_h ?_|refine a_d ?_ _));refine a_r (cs:=#[.int .i64 ((a_a l0_1 x3_2).f0),.int .i64 ((a_a l0_1 x3_2).f1),.int .i64 ((a_a l0_1 x3_2).f2),.int .i64 0,.int .i64 0,.bool false,.bool false,.int .u32 0,.int .i64 0,.int .i64 0,.int .i64 0]) ?_ 3 _ rfl;(with_reducible repeat (first|refine a_e ?_ _|refine a_h ?_|refine a_d ?_ _));refine a_r (cs:=#[.int .i64 ((a_a l0_1 x3_2).f0),.int .i64 ((a_a l0_1 x3_2).f1),.int .i64 0,.int .i64 0,.int .i64 0,.bool false,.bool false,.int .u32 0,.int .i64 0,.int .i64 0,.int .i64 0]) ?_ 2 _ rfl;(with_reducible repeat (first|refine a_e ?_ _|refine a_h ?_|refine a_d ?_ _));refine a_r (cs:=#[.int .i64 ((a_a l0_1 x3_2).f0),.int .i64 0,.int .i64 0,.int .i64 0,.int .i64 0,.bool false,.bool false,.int .u32 0,.int .i64 0,.int .i64 0,.int .i64 0]) ?_ 1 _ rfl;(with_reducible repeat (first|refine a_e ?_ _|refine a_h ?_|refine a_d ?_ _));refine a_r (cs:=#[.int .i64 0,.int .i64 0,.int .i64 0,.int .i64 0,.int .i64 0,.bool false,.bool false,.int .u32 0,.int .i64 0,.int .i64 0,.int .i64 0]) ?_ 0 _ rfl;(with_reducible repeat (first|refine a_e ?_ _|refine a_h ?_|refine a_d ?_ _));exact a_H.out⟩
      have n2_ : a_g (Below w.heap.size w (((((((((((w12.setCell ⟨a_K,0,none⟩ (.int .i64 ((a_a l0_1 x3_2).f0))).setCell ⟨a_K,1,none⟩ (.int .i64 ((a_a l0_1 x3_2).f1))).setCell ⟨a_K,2,none⟩ (.int .i64 ((a_a l0_1 x3_2).f2))).setCell ⟨a_K,3,none⟩ (.int .i64 ((a_a l0_1 x3_2).f3))).setCell ⟨a_K,4,none⟩ (.int .i64 ((a_a l0_1 x3_2).f4))).setCell ⟨a_K,5,none⟩ (.bool ((a_a l0_1 x3_2).f5))).setCell ⟨a_K,6,none⟩ (.bool ((a_a l0_1 x3_2).f6))).setCell ⟨a_K,7,none⟩ (.int .u32 ((a_a l0_1 x3_2).f7))).setCell ⟨a_K,8,none⟩ (.int .i64 ((a_a l0_1 x3_2).f8))).setCell ⟨a_K,9,none⟩ (.int .i64 ((a_a l0_1 x3_2).f9))).setCell ⟨a_K,10,none⟩ (.int .i64 ((a_a l0_1 x3_2).f10)))):=⟨by repeat (first|(with_reducible first|exact HB.out|apply a_j|apply a_f|apply a_k|refine a_i ?_ d_i.out|refine a_i ?_ d_Y.out)|exact HB.out)⟩
      (try clear b_m)
      (try clear a_H)
      (try clear HB)
      generalize (((((((((((w12.setCell ⟨a_K,0,none⟩ (.int .i64 ((a_a l0_1 x3_2).f0))).setCell ⟨a_K,1,none⟩ (.int .i64 ((a_a l0_1 x3_2).f1))).setCell ⟨a_K,2,none⟩ (.int .i64 ((a_a l0_1 x3_2).f2))).setCell ⟨a_K,3,none⟩ (.int .i64 ((a_a l0_1 x3_2).f3))).setCell ⟨a_K,4,none⟩ (.int .i64 ((a_a l0_1 x3_2).f4))).setCell ⟨a_K,5,none⟩ (.bool ((a_a l0_1 x3_2).f5))).setCell ⟨a_K,6,none⟩ (.bool ((a_a l0_1 x3_2).f6))).setCell ⟨a_K,7,none⟩ (.int .u32 ((a_a l0_1 x3_2).f7))).setCell ⟨a_K,8,none⟩ (.int .i64 ((a_a l0_1 x3_2).f8))).setCell ⟨a_K,9,none⟩ (.int .i64 ((a_a l0_1 x3_2).f9))).setCell ⟨a_K,10,none⟩ (.int .i64 ((a_a l0_1 x3_2).f10))) = w21 at n0_ n1_ n2_ ⊢
      have b_m:=n0_
      have a_H:=n1_
      have HB:=n2_
      clear n0_ n1_ n2_
      replace b_m:=a_g.mk (a_h b_m.out)
      replace a_H:=a_g.mk (a_h a_H.out)
      replace HB:=a_g.mk (a_k HB.out)
      have p214 : 0 ≤ ((ji18) : Int):=of_decide_eq_true (by first|(with_reducible assumption)|assumption)
      have q214 : (ji18) < (l0_1.length : Int):=of_decide_eq_true (by first|(with_reducible assumption)|assumption)
      obtain ⟨ad214,e214,h_n,h_o,h_p,h_q,h_r,h_s,h_t,h_u,h_v,h_w,g_d⟩:=c_e b_v.out (ji18) p214 q214
      have i_G:=g_d
      have l_a:=h_w
      have k_9:=h_v
      have k_8:=h_u
      have k_7:=h_t
      have k_6:=h_s
      have k_5:=h_r
      have k_4:=h_q
      have k_3:=h_p
      have k_2:=h_o
      have k_1:=h_n
      obtain rfl : ad211 = ad214:=(by injection e214)
      replace h_n:=(HB.out.cell (World.block_lt_of_cell? w _ h_n)).trans h_n
      replace h_o:=(HB.out.cell (World.block_lt_of_cell? w _ h_o)).trans h_o
      replace h_p:=(HB.out.cell (World.block_lt_of_cell? w _ h_p)).trans h_p
      replace h_q:=(HB.out.cell (World.block_lt_of_cell? w _ h_q)).trans h_q
      replace h_r:=(HB.out.cell (World.block_lt_of_cell? w _ h_r)).trans h_r
      replace h_s:=(HB.out.cell (World.block_lt_of_cell? w _ h_s)).trans h_s
      replace h_t:=(HB.out.cell (World.block_lt_of_cell? w _ h_t)).trans h_t
      replace h_u:=(HB.out.cell (World.block_lt_of_cell? w _ h_u)).trans h_u
      replace h_v:=(HB.out.cell (World.block_lt_of_cell? w _ h_v)).trans h_v
      replace h_w:=(HB.out.cell (World.block_lt_of_cell? w _ h_w)).trans h_w
      replace g_d:=(HB.out.cell (World.block_lt_of_cell? w _ g_d)).trans g_d
      replace p214:=eq_true p214
      replace q214:=eq_true q214
      refine d_p (n:=19) (S:=fun w' => w'.cell? ⟨a_K,0,none⟩ = some (.int .i64 ((a_a l0_1 x3_2).f0)) ∧ w'.cell? ⟨a_K,1,none⟩ = some (.int .i64 ((a_a l0_1 x3_2).f1)) ∧ w'.cell? ⟨a_K,2,none⟩ = some (.int .i64 ((a_a l0_1 x3_2).f2)) ∧ w'.cell? ⟨a_K,3,none⟩ = some (.int .i64 ((a_a l0_1 x3_2).f3)) ∧ w'.cell? ⟨a_K,4,none⟩ = some (.int .i64 ((a_a l0_1 x3_2).f4)) ∧ w'.cell? ⟨a_K,5,none⟩ = some (.bool ((a_a l0_1 x3_2).f5)) ∧ w'.cell? ⟨a_K,6,none⟩ = some (.bool ((a_a l0_1 x3_2).f6)) ∧ w'.cell? ⟨a_K,7,none⟩ = some (.int .u32 ((a_a l0_1 x3_2).f7)) ∧ w'.cell? ⟨a_K,8,none⟩ = some (.int .i64 ((a_a l0_1 x3_2).f8)) ∧ w'.cell? ⟨a_K,9,none⟩ = some (.int .i64 ((a_a l0_1 x3_2).f9)) ∧ w'.cell? ⟨a_K,10,none⟩ = some (.int .i64 ((a_a l0_1 x3_2).f10)) ∧ w'.cell? ⟨d_c,0,none⟩ = some (.int .i64 a0_0) ∧ w'.cell? ⟨d_c,1,none⟩ = some (.slice (some ad211) l0_1.length c0_1) ∧ w'.cell? (ad211.add (((ji18)).toNat * 11)) = some (.int .i64 ((a_a l0_1 (ji18)).f0)) ∧ w'.cell? ⟨(ad211.add (((ji18)).toNat * 11)).block,(ad211.add (((ji18)).toNat * 11)).off + 1,none⟩ = some (.int .i64 ((a_a l0_1 (ji18)).f1)) ∧ w'.cell? ⟨(ad211.add (((ji18)).toNat * 11)).block,(ad211.add (((ji18)).toNat * 11)).off + 2,none⟩ = some (.int .i64 ((a_a l0_1 (ji18)).f2)) ∧ w'.cell? ⟨(ad211.add (((ji18)).toNat * 11)).block,(ad211.add (((ji18)).toNat * 11)).off + 3,none⟩ = some (.int .i64 ((a_a l0_1 (ji18)).f3)) ∧ w'.cell? ⟨(ad211.add (((ji18)).toNat * 11)).block,(ad211.add (((ji18)).toNat * 11)).off + 4,none⟩ = some (.int .i64 ((a_a l0_1 (ji18)).f4)) ∧ w'.cell? ⟨(ad211.add (((ji18)).toNat * 11)).block,(ad211.add (((ji18)).toNat * 11)).off + 5,none⟩ = some (.bool ((a_a l0_1 (ji18)).f5)) ∧ w'.cell? ⟨(ad211.add (((ji18)).toNat * 11)).block,(ad211.add (((ji18)).toNat * 11)).off + 6,none⟩ = some (.bool ((a_a l0_1 (ji18)).f6)) ∧ w'.cell? ⟨(ad211.add (((ji18)).toNat * 11)).block,(ad211.add (((ji18)).toNat * 11)).off + 7,none⟩ = some (.int .u32 ((a_a l0_1 (ji18)).f7)) ∧ w'.cell? ⟨(ad211.add (((ji18)).toNat * 11)).block,(ad211.add (((ji18)).toNat * 11)).off + 8,none⟩ = some (.int .i64 ((a_a l0_1 (ji18)).f8)) ∧ w'.cell? ⟨(ad211.add (((ji18)).toNat * 11)).block,(ad211.add (((ji18)).toNat * 11)).off + 9,none⟩ = some (.int .i64 ((a_a l0_1 (ji18)).f9)) ∧ w'.cell? ⟨(ad211.add (((ji18)).toNat * 11)).block,(ad211.add (((ji18)).toNat * 11)).off + 10,none⟩ = some (.int .i64 ((a_a l0_1 (ji18)).f10))) (ds:=[]) Z2_ (by kernel_rfl) rfl rfl ⟨(a_b a_H.out 0).trans rfl,(a_b a_H.out 1).trans rfl,(a_b a_H.out 2).trans rfl,(a_b a_H.out 3).trans rfl,(a_b a_H.out 4).trans rfl,(a_b a_H.out 5).trans rfl,(a_b a_H.out 6).trans rfl,(a_b a_H.out 7).trans rfl,(a_b a_H.out 8).trans rfl,(a_b a_H.out 9).trans rfl,(a_b a_H.out 10).trans rfl,(a_b b_m.out 0).trans rfl,(a_b b_m.out 1).trans rfl,((HB.out.cell (World.block_lt_of_cell? w _ k_1)).trans k_1),((HB.out.cell (World.block_lt_of_cell? w _ k_2)).trans k_2),((HB.out.cell (World.block_lt_of_cell? w _ k_3)).trans k_3),((HB.out.cell (World.block_lt_of_cell? w _ k_4)).trans k_4),((HB.out.cell (World.block_lt_of_cell? w _ k_5)).trans k_5),((HB.out.cell (World.block_lt_of_cell? w _ k_6)).trans k_6),((HB.out.cell (World.block_lt_of_cell? w _ k_7)).trans k_7),((HB.out.cell (World.block_lt_of_cell? w _ k_8)).trans k_8),((HB.out.cell (World.block_lt_of_cell? w _ k_9)).trans k_9),((HB.out.cell (World.block_lt_of_cell? w _ l_a)).trans l_a),((HB.out.cell (World.block_lt_of_cell? w _ i_G)).trans i_G)⟩ (fun hHeld => ?_);refine b_T a_l.tab7 a_l.o_W (fun HT_ HW_ => ?_)
      generalize w21.drew = w22 at b_m a_H HB h_n h_o g_d h_p h_q h_r h_s h_t h_u h_v h_w hHeld ⊢
      refine b_z (i:=0) (N:=some 28) (v:=?_) (a':=?_) Z6_ rfl rfl (a_N HT_.out HW_.out (by kernel_rfl)) (fun _ _ _ h => h) (Or.inl ⟨by rfl,?_⟩) hHeld ?_ ?_
      rotate_left
      ·rintro w' ⟨s0,s1,s2,s3,s4,s5,s6,s7,s8,s9,s10,s11,s12,s13,s14,s15,s16,s17,s18,s19,s20,s21,s22,s23⟩
       go_simp
       with_reducible rfl
      rotate_left
      ·simp only [Act.put,sa_,sb_,sc_,a_0,a_1]
       rfl
      refine one_ (i:=1) (N:=some 29) Z12_ rfl rfl (b_W HT_.out (by kernel_rfl)) (by decide) (fun K hK => ?_)
      refine d_f Tryd.func26 (by kernel_rfl) rfl #[.agg #[.int .i64 ((a_a l0_1 x3_2).f0),.int .i64 ((a_a l0_1 x3_2).f1),.int .i64 ((a_a l0_1 x3_2).f2),.int .i64 ((a_a l0_1 x3_2).f3),.int .i64 ((a_a l0_1 x3_2).f4),.bool ((a_a l0_1 x3_2).f5),.bool ((a_a l0_1 x3_2).f6),.int .u32 ((a_a l0_1 x3_2).f7),.int .i64 ((a_a l0_1 x3_2).f8),.int .i64 ((a_a l0_1 x3_2).f9),.int .i64 ((a_a l0_1 x3_2).f10)]] (by rfl) rfl rfl (by (try simp only [List.map_toArray,List.map_cons,List.map_nil]);first|done|rfl|(simp only [List.length_drop,List.length_take];rfl)) ?_
      with_reducible refine (b_E.calls ((a_a l0_1 x3_2).f0) ((a_a l0_1 x3_2).f1) ((a_a l0_1 x3_2).f2) ((a_a l0_1 x3_2).f3) ((a_a l0_1 x3_2).f4) ((a_a l0_1 x3_2).f5) ((a_a l0_1 x3_2).f6) ((a_a l0_1 x3_2).f7) ((a_a l0_1 x3_2).f8) ((a_a l0_1 x3_2).f9) ((a_a l0_1 x3_2).f10) true _ A15.out).mono ?_
      rintro e w23 ⟨rfl,hb⟩
      refine ⟨_,rfl,?_⟩
      replace b_m:=a_g.mk (a_m (bup_ b_m.out) hb)
      replace a_H:=a_g.mk (a_m (bup_ a_H.out) hb)
      replace HB:=a_g.mk (a_p (by repeat (first|(with_reducible first|exact HB.out|apply a_j|apply a_f|apply a_k|refine a_i ?_ d_i.out|refine a_i ?_ d_Y.out)|exact HB.out)) hb)
      (try clear hb)
      (try clear hb2)
      (try clear hk)
      (try clear hi)
      refine hK.out _ _ ⟨(a_b a_H.out 0).trans rfl,(a_b a_H.out 1).trans rfl,(a_b a_H.out 2).trans rfl,(a_b a_H.out 3).trans rfl,(a_b a_H.out 4).trans rfl,(a_b a_H.out 5).trans rfl,(a_b a_H.out 6).trans rfl,(a_b a_H.out 7).trans rfl,(a_b a_H.out 8).trans rfl,(a_b a_H.out 9).trans rfl,(a_b a_H.out 10).trans rfl,(a_b b_m.out 0).trans rfl,(a_b b_m.out 1).trans rfl,((HB.out.cell (World.block_lt_of_cell? w _ k_1)).trans k_1),((HB.out.cell (World.block_lt_of_cell? w _ k_2)).trans k_2),((HB.out.cell (World.block_lt_of_cell? w _ k_3)).trans k_3),((HB.out.cell (World.block_lt_of_cell? w _ k_4)).trans k_4),((HB.out.cell (World.block_lt_of_cell? w _ k_5)).trans k_5),((HB.out.cell (World.block_lt_of_cell? w _ k_6)).trans k_6),((HB.out.cell (World.block_lt_of_cell? w _ k_7)).trans k_7),((HB.out.cell (World.block_lt_of_cell? w _ k_8)).trans k_8),((HB.out.cell (World.block_lt_of_cell? w _ k_9)).trans k_9),((HB.out.cell (World.block_lt_of_cell? w _ l_a)).trans l_a),((HB.out.cell (World.block_lt_of_cell? w _ i_G)).trans i_G)⟩ (fun hHeld => ?_)
      clear hK K
      refine c_N (a':=?_) ?_ ?_
      rotate_left
      ·show Act.put _ (some 29) _ = _
       simp only [Act.put,sa_,sb_,sc_,a_0,a_1]
       rfl
      refine pt_ 2 (some 30) Z15_ HT_ ?_
      refine pt_ 3 (some 31) Z19_ HT_ ?_
      refine pt_ 4 (some 32) Z22_ HT_ ?_
      refine pt_ 5 (some 33) Z26_ HT_ ?_
      refine pt_ 6 (some 34) Z30_ HT_ ?_
      refine pt_ 7 (some 35) Z34_ HT_ ?_
      refine pt_ 9 (some 37) #[T_,T_,T_,T_,T_,T_,T_,T_,F_,T_,F_,F_,F_,F_,F_,F_,F_,F_,F_] HT_ ?_
      refine pt_ 10 (some 38) #[T_,T_,T_,T_,T_,T_,T_,T_,F_,T_,T_,F_,F_,F_,F_,F_,F_,F_,F_] HT_ ?_
      refine pt_ 14 (some 42) #[T_,T_,T_,T_,T_,T_,T_,T_,F_,T_,T_,F_,F_,F_,T_,F_,F_,F_,F_] HT_ ?_
      refine b_z (i:=8) (N:=some 36) (v:=?_) (a':=?_) #[T_,T_,T_,T_,T_,T_,T_,T_,T_,T_,T_,F_,F_,F_,T_,F_,F_,F_,F_] rfl rfl (a_N HT_.out HW_.out (by kernel_rfl)) (fun _ _ _ h => h) (Or.inl ⟨by rfl,?_⟩) hHeld ?_ ?_
      rotate_left
      ·rintro w' ⟨s0,s1,s2,s3,s4,s5,s6,s7,s8,s9,s10,s11,s12,s13,s14,s15,s16,s17,s18,s19,s20,s21,s22,s23⟩
       go_simp
       with_reducible rfl
      rotate_left
      ·simp only [Act.put,sa_,sb_,sc_,a_0,a_1]
       rfl
      refine pt_ 11 (some 39) #[T_,T_,T_,T_,T_,T_,T_,T_,T_,T_,T_,T_,F_,F_,T_,F_,F_,F_,F_] HT_ ?_
      refine pt_ 12 (some 40) #[T_,T_,T_,T_,T_,T_,T_,T_,T_,T_,T_,T_,T_,F_,T_,F_,F_,F_,F_] HT_ ?_
      refine b_z (i:=13) (N:=some 41) (v:=?_) (a':=?_) Z62_ rfl rfl (a_N HT_.out HW_.out (by kernel_rfl)) (fun _ _ _ h => h) (Or.inl ⟨by rfl,?_⟩) hHeld ?_ ?_
      rotate_left
      ·rintro w' ⟨s0,s1,s2,s3,s4,s5,s6,s7,s8,s9,s10,s11,s12,s13,s14,s15,s16,s17,s18,s19,s20,s21,s22,s23⟩
       go_simp
       with_reducible rfl
      rotate_left
      ·simp only [Act.put,sa_,sb_,sc_,a_0,a_1]
       rfl
      refine b_z (i:=15) (N:=some 43) (v:=?_) (a':=?_) Z68_ rfl rfl (a_N HT_.out HW_.out (by kernel_rfl)) (fun _ _ _ h => h) (Or.inl ⟨by rfl,?_⟩) hHeld ?_ ?_
      rotate_left
      ·rintro w' ⟨s0,s1,s2,s3,s4,s5,s6,s7,s8,s9,s10,s11,s12,s13,s14,s15,s16,s17,s18,s19,s20,s21,s22,s23⟩
       go_simp
       with_reducible rfl
      rotate_left
      ·simp only [Act.put,sa_,sb_,sc_,a_0,a_1]
       rfl
      refine pt_ 16 (some 44) Z71_ HT_ ?_
      refine pt_ 17 (some 45) Z75_ HT_ ?_
      refine pt_ 18 (some 46) t_h HT_ ?_
      refine e_U (c_E HT_.out (by kernel_rfl)) ?_
      try go_wp2
      go_meet
      case rel => exact ⟨_,(decide (((a_a l0_1 (ji18)).f0) ≥ ((a_a l0_1 x3_2).f0))),(by first|rfl|(simp;done)|(simp only [← hji18] <;> (first|rfl|simp))|(simp [*];done)),H',⟨by have:=HJ1.out;have:=HK2.out;first|omega|exact Nat.le_refl _⟩,⟨by (with_reducible repeat (first|refine a_e ?_ _|refine a_h ?_|refine a_d ?_ _));exact b_m.out⟩,⟨by (with_reducible repeat (first|refine a_e ?_ _|refine a_h ?_|refine a_d ?_ _));exact a_H.out⟩,⟨by repeat (first|(with_reducible first|exact HB.out|apply a_j|apply a_f|apply a_k|refine a_i ?_ d_i.out|refine a_i ?_ d_Y.out)|exact HB.out)⟩⟩
     case rest =>
      clear HC10
      try clear c1
      try clear c2
      try clear p2
      try clear q2
      try clear hx2
      try clear p6
      try clear c13
      try clear c16
      try clear c17
      try clear c17b0
      try clear c19
      try clear c19b0
      try clear c20
      try clear c20b0
      try clear p21
      try clear q21
      try clear hx21
      try clear c26
      try clear f_y
      try clear f_z
      try clear e_P
      try clear f_A
      try clear f_B
      try clear f_C
      try clear f_D
      try clear f_E
      try clear f_F
      try clear f_G
      try clear f_H
      try clear g_L
      try clear f_I
      try clear f_J
      try clear e_Q
      try clear f_K
      try clear f_L
      try clear f_M
      try clear f_N
      try clear f_O
      try clear f_P
      try clear f_Q
      try clear f_R
      try clear j_f
      try clear j_g
      try clear h_Z
      try clear j_h
      try clear j_i
      try clear j_j
      try clear j_k
      try clear j_l
      try clear j_m
      try clear j_n
      try clear j_o
      try clear h_n
      try clear h_o
      try clear g_d
      try clear h_p
      try clear h_q
      try clear h_r
      try clear h_s
      try clear h_t
      try clear h_u
      try clear h_v
      try clear h_w
      try clear p211
      try clear p214
      try clear q211
      try clear q214
      obtain ⟨kq,x46_9,rfl,HA,HJ9,b_m,a_H,HB⟩:=hcut
      cases kq with
      | zero => exact absurd HA.out (by simp [a_l.j2])
      | succ kj9 =>
       have H:=HA.out
       clear HA
       simp only [a_l.j2] at H
       by_cases c30 : x46_9 = true
       ·subst c30
        have H1 : (some false) = some r:=by rw [if_pos rfl] at H;exact H
        clear H
        have H:=H1
        clear H1
        obtain rfl:=Option.some.inj H
        go_wp2
        go_ret
        exact ⟨by first|rfl|(simp [a_u,a_v] <;> rfl)|(simp [*, a_u,a_v] <;> rfl),by repeat (first|(with_reducible first|exact HB.out|apply a_j|apply a_f|apply a_k|refine a_i ?_ d_i.out|refine a_i ?_ d_Y.out)|exact HB.out)⟩
       replace c30:=Bool.eq_false_iff.mpr c30
       subst c30
       have H1 : (a_l.l1 kj9 x3_2 0 0 a0_0 l0_1 ((a_a l0_1 x3_2).f0) ((a_a l0_1 x3_2).f1) ((a_a l0_1 x3_2).f2) ((a_a l0_1 x3_2).f3) ((a_a l0_1 x3_2).f4) ((a_a l0_1 x3_2).f5) ((a_a l0_1 x3_2).f6) ((a_a l0_1 x3_2).f7) ((a_a l0_1 x3_2).f8) ((a_a l0_1 x3_2).f9) ((a_a l0_1 x3_2).f10)) = some r:=by rw [if_neg (show ¬ (false = true) by decide)] at H;exact H
       clear H
       have H:=H1
       clear H1
       have H':=a_g.mk H
       clear H
       go_wp2
       go_loopg [5,6] kj9 (fun kq v5 v6 w' => ∃ (x5_4 : Int) (x6_4 : Int),v5 = .int .i64 x5_4 ∧ v6 = .int .i64 x6_4 ∧ a_g (a_l.l1 kq x3_2 x5_4 x6_4 a0_0 l0_1 ((a_a l0_1 x3_2).f0) ((a_a l0_1 x3_2).f1) ((a_a l0_1 x3_2).f2) ((a_a l0_1 x3_2).f3) ((a_a l0_1 x3_2).f4) ((a_a l0_1 x3_2).f5) ((a_a l0_1 x3_2).f6) ((a_a l0_1 x3_2).f7) ((a_a l0_1 x3_2).f8) ((a_a l0_1 x3_2).f9) ((a_a l0_1 x3_2).f10) = some r) ∧ a_g (kq ≤ kj9) ∧ a_g (w'.heap[d_c]? = some (.cells #[.int .i64 a0_0,(.slice (some ad211) l0_1.length c0_1)] 24 (0,0))) ∧ a_g (w'.heap[a_K]? = some (.cells #[.int .i64 ((a_a l0_1 x3_2).f0),.int .i64 ((a_a l0_1 x3_2).f1),.int .i64 ((a_a l0_1 x3_2).f2),.int .i64 ((a_a l0_1 x3_2).f3),.int .i64 ((a_a l0_1 x3_2).f4),.bool ((a_a l0_1 x3_2).f5),.bool ((a_a l0_1 x3_2).f6),.int .u32 ((a_a l0_1 x3_2).f7),.int .i64 ((a_a l0_1 x3_2).f8),.int .i64 ((a_a l0_1 x3_2).f9),.int .i64 ((a_a l0_1 x3_2).f10)] 33 (0,0))) ∧ a_g (Below w.heap.size w w'))
       case atStart => exact ⟨(0),(0),(by first|rfl|(simp;done)|(simp [*];done)),(by first|rfl|(simp;done)|(simp [*];done)),H',⟨Nat.le_refl _⟩,⟨by (with_reducible repeat (first|refine a_e ?_ _|refine a_h ?_|refine a_d ?_ _));exact b_m.out⟩,⟨by (with_reducible repeat (first|refine a_e ?_ _|refine a_h ?_|refine a_d ?_ _));exact a_H.out⟩,⟨by repeat (first|(with_reducible first|exact HB.out|apply a_j|apply a_f|apply a_k|refine a_i ?_ d_i.out|refine a_i ?_ d_Y.out)|exact HB.out)⟩⟩
       case round =>
        clear H'
        try clear c1
        try clear c2
        try clear p2
        try clear q2
        try clear hx2
        try clear c3
        try clear p6
        try clear c13
        try clear c16
        try clear c17
        try clear c17b0
        try clear c19
        try clear c19b0
        try clear c20
        try clear c20b0
        try clear p21
        try clear q21
        try clear hx21
        try clear c26
        try clear c30
        try clear f_y
        try clear f_z
        try clear e_P
        try clear f_A
        try clear f_B
        try clear f_C
        try clear f_D
        try clear f_E
        try clear f_F
        try clear f_G
        try clear f_H
        try clear g_L
        try clear f_I
        try clear f_J
        try clear e_Q
        try clear f_K
        try clear f_L
        try clear f_M
        try clear f_N
        try clear f_O
        try clear f_P
        try clear f_Q
        try clear f_R
        try clear j_f
        try clear j_g
        try clear h_Z
        try clear j_h
        try clear j_i
        try clear j_j
        try clear j_k
        try clear j_l
        try clear j_m
        try clear j_n
        try clear j_o
        try clear h_n
        try clear h_o
        try clear g_d
        try clear h_p
        try clear h_q
        try clear h_r
        try clear h_s
        try clear h_t
        try clear h_u
        try clear h_v
        try clear h_w
        try clear p2
        try clear p21
        try clear p211
        try clear p214
        try clear p6
        try clear q2
        try clear q21
        try clear q211
        try clear q214
        obtain ⟨x5_4,x6_4,rfl,rfl,HA,HK4,b_m,a_H,HB⟩:=hrel
        cases gk with
        | zero => exact absurd HA.out (by simp [a_l.l1])
        | succ k4 =>
         have H:=HA.out
         clear HA
         simp only [a_l.l1] at H
         by_cases c31 : x6_4 < (l0_1.length : Int)
         rotate_left
         ·rw [if_neg c31] at H
          have c31b0 : decide (x6_4 < (l0_1.length : Int)) = false:=decide_eq_false c31
          clear c31
          by_cases c72 : x5_4 = ((a_a l0_1 x3_2).f9)
          rotate_left
          ·rw [if_neg c72] at H
           have c72b0 : (x5_4 == ((a_a l0_1 x3_2).f9)) = false:=beq_eq_false_iff_ne.mpr c72
           have c72b1 : (x5_4 != ((a_a l0_1 x3_2).f9)) = true:=bne_iff_ne.mpr c72
           obtain rfl:=Option.some.inj H
           have H_t:=b_f.out
           have H_D:=e_T.out
           have u_1 : wr.cell? ⟨d_c,0,none⟩ = some (.int .i64 a0_0):=(a_b b_m.out 0).trans rfl
           have u_2 : wr.cell? ⟨d_c,1,none⟩ = some (.slice (some ad211) l0_1.length c0_1):=(a_b b_m.out 1).trans rfl
           have w_N:=a_c b_m.out 0
           have w_O:=a_c b_m.out 1
           have u_3 : wr.cell? ⟨a_K,0,none⟩ = some (.int .i64 ((a_a l0_1 x3_2).f0)):=(a_b a_H.out 0).trans rfl
           have u_4 : wr.cell? ⟨a_K,1,none⟩ = some (.int .i64 ((a_a l0_1 x3_2).f1)):=(a_b a_H.out 1).trans rfl
           have D_l : wr.cell? ⟨a_K,2,none⟩ = some (.int .i64 ((a_a l0_1 x3_2).f2)):=(a_b a_H.out 2).trans rfl
           have D_m : wr.cell? ⟨a_K,3,none⟩ = some (.int .i64 ((a_a l0_1 x3_2).f3)):=(a_b a_H.out 3).trans rfl
           have D_n : wr.cell? ⟨a_K,4,none⟩ = some (.int .i64 ((a_a l0_1 x3_2).f4)):=(a_b a_H.out 4).trans rfl
           have D_o : wr.cell? ⟨a_K,5,none⟩ = some (.bool ((a_a l0_1 x3_2).f5)):=(a_b a_H.out 5).trans rfl
           have D_p : wr.cell? ⟨a_K,6,none⟩ = some (.bool ((a_a l0_1 x3_2).f6)):=(a_b a_H.out 6).trans rfl
           have D_q : wr.cell? ⟨a_K,7,none⟩ = some (.int .u32 ((a_a l0_1 x3_2).f7)):=(a_b a_H.out 7).trans rfl
           have D_r : wr.cell? ⟨a_K,8,none⟩ = some (.int .i64 ((a_a l0_1 x3_2).f8)):=(a_b a_H.out 8).trans rfl
           have D_s : wr.cell? ⟨a_K,9,none⟩ = some (.int .i64 ((a_a l0_1 x3_2).f9)):=(a_b a_H.out 9).trans rfl
           have y_3 : wr.cell? ⟨a_K,10,none⟩ = some (.int .i64 ((a_a l0_1 x3_2).f10)):=(a_b a_H.out 10).trans rfl
           have w_P:=a_c a_H.out 0
           have w_Q:=a_c a_H.out 1
           have G_3:=a_c a_H.out 2
           have G_4:=a_c a_H.out 3
           have G_5:=a_c a_H.out 4
           have G_6:=a_c a_H.out 5
           have G_7:=a_c a_H.out 6
           have G_8:=a_c a_H.out 7
           have G_9:=a_c a_H.out 8
           have H_a:=a_c a_H.out 9
           have z_u:=a_c a_H.out 10
           go_wp2
           go_ret
           exact ⟨by first|rfl|(simp [a_u,a_v] <;> rfl)|(simp [*, a_u,a_v] <;> rfl),by repeat (first|(with_reducible first|exact HB.out|apply a_j|apply a_f|apply a_k|refine a_i ?_ d_i.out|refine a_i ?_ d_Y.out)|exact HB.out)⟩
          rw [if_pos c72] at H
          have c72b0 : (x5_4 == ((a_a l0_1 x3_2).f9)) = true:=beq_iff_eq.mpr c72
          have c72b1 : (x5_4 != ((a_a l0_1 x3_2).f9)) = false:=bne_eq_false_iff_eq.mpr c72
          clear c72
          have H':=a_g.mk H
          clear H
          have H_s:=b_f.out
          have H_C:=e_T.out
          have u_Z : wr.cell? ⟨d_c,0,none⟩ = some (.int .i64 a0_0):=(a_b b_m.out 0).trans rfl
          have u_0 : wr.cell? ⟨d_c,1,none⟩ = some (.slice (some ad211) l0_1.length c0_1):=(a_b b_m.out 1).trans rfl
          have w_L:=a_c b_m.out 0
          have w_M:=a_c b_m.out 1
          have D_b : wr.cell? ⟨a_K,0,none⟩ = some (.int .i64 ((a_a l0_1 x3_2).f0)):=(a_b a_H.out 0).trans rfl
          have D_c : wr.cell? ⟨a_K,1,none⟩ = some (.int .i64 ((a_a l0_1 x3_2).f1)):=(a_b a_H.out 1).trans rfl
          have D_d : wr.cell? ⟨a_K,2,none⟩ = some (.int .i64 ((a_a l0_1 x3_2).f2)):=(a_b a_H.out 2).trans rfl
          have D_e : wr.cell? ⟨a_K,3,none⟩ = some (.int .i64 ((a_a l0_1 x3_2).f3)):=(a_b a_H.out 3).trans rfl
          have D_f : wr.cell? ⟨a_K,4,none⟩ = some (.int .i64 ((a_a l0_1 x3_2).f4)):=(a_b a_H.out 4).trans rfl
          have D_g : wr.cell? ⟨a_K,5,none⟩ = some (.bool ((a_a l0_1 x3_2).f5)):=(a_b a_H.out 5).trans rfl
          have D_h : wr.cell? ⟨a_K,6,none⟩ = some (.bool ((a_a l0_1 x3_2).f6)):=(a_b a_H.out 6).trans rfl
          have D_i : wr.cell? ⟨a_K,7,none⟩ = some (.int .u32 ((a_a l0_1 x3_2).f7)):=(a_b a_H.out 7).trans rfl
          have D_j : wr.cell? ⟨a_K,8,none⟩ = some (.int .i64 ((a_a l0_1 x3_2).f8)):=(a_b a_H.out 8).trans rfl
          have D_k : wr.cell? ⟨a_K,9,none⟩ = some (.int .i64 ((a_a l0_1 x3_2).f9)):=(a_b a_H.out 9).trans rfl
          have y_2 : wr.cell? ⟨a_K,10,none⟩ = some (.int .i64 ((a_a l0_1 x3_2).f10)):=(a_b a_H.out 10).trans rfl
          have G_T:=a_c a_H.out 0
          have G_U:=a_c a_H.out 1
          have G_V:=a_c a_H.out 2
          have G_W:=a_c a_H.out 3
          have G_X:=a_c a_H.out 4
          have G_Y:=a_c a_H.out 5
          have G_Z:=a_c a_H.out 6
          have G_0:=a_c a_H.out 7
          have G_1:=a_c a_H.out 8
          have G_2:=a_c a_H.out 9
          have z_t:=a_c a_H.out 10
          go_wp2
          go_roundg k4
          case measure => have:=HJ1.out;have:=HK2.out;have:=HJ9.out;have:=HK4.out;omega
          case rel => exact ⟨(wrap64 (x3_2 + 1)),(by first|rfl|(simp;done)|(simp [*];done)),H',⟨by have:=HJ1.out;have:=HK2.out;have:=HJ9.out;have:=HK4.out;omega⟩,⟨by (with_reducible repeat (first|refine a_e ?_ _|refine a_h ?_|refine a_d ?_ _));exact b_m.out⟩,⟨by repeat (first|(with_reducible first|exact HB.out|apply a_j|apply a_f|apply a_k|refine a_i ?_ d_i.out|refine a_i ?_ d_Y.out)|exact HB.out)⟩⟩
         rw [if_pos c31] at H
         have c31b0 : decide (x6_4 < (l0_1.length : Int)) = true:=decide_eq_true c31
         clear c31
         by_cases c32 : 0 ≤ x6_4
         rotate_left
         ·rw [if_neg c32] at H
          exact absurd H (by simp)
         rw [if_pos c32] at H
         have c32b0 : decide (0 ≤ x6_4) = true:=decide_eq_true c32
         clear c32
         by_cases c33 : ((a_a l0_1 x6_4).f1) = ((a_a l0_1 x3_2).f1)
         rotate_left
         ·rw [if_neg c33] at H
          have c33b0 : (((a_a l0_1 x6_4).f1) == ((a_a l0_1 x3_2).f1)) = false:=beq_eq_false_iff_ne.mpr c33
          have c33b1 : (((a_a l0_1 x6_4).f1) != ((a_a l0_1 x3_2).f1)) = true:=bne_iff_ne.mpr c33
          have H':=a_g.mk H
          clear H
          have I_S:=b_f.out
          have J_q:=e_T.out
          have C_L : wr.cell? ⟨d_c,0,none⟩ = some (.int .i64 a0_0):=(a_b b_m.out 0).trans rfl
          have C_M : wr.cell? ⟨d_c,1,none⟩ = some (.slice (some ad211) l0_1.length c0_1):=(a_b b_m.out 1).trans rfl
          have G_t:=a_c b_m.out 0
          have G_u:=a_c b_m.out 1
          have p215 : 0 ≤ (x6_4 : Int):=of_decide_eq_true (by first|(with_reducible assumption)|assumption)
          have q215 : x6_4 < (l0_1.length : Int):=of_decide_eq_true (by first|(with_reducible assumption)|assumption)
          obtain ⟨ad215,e215,d_v,d_w,d_x,d_y,d_z,d_A,d_B,d_C,d_D,d_E,c_K⟩:=c_e b_v.out x6_4 p215 q215
          obtain rfl : ad211 = ad215:=(by injection e215)
          replace d_v:=(HB.out.cell (World.block_lt_of_cell? w _ d_v)).trans d_v
          replace d_w:=(HB.out.cell (World.block_lt_of_cell? w _ d_w)).trans d_w
          replace d_x:=(HB.out.cell (World.block_lt_of_cell? w _ d_x)).trans d_x
          replace d_y:=(HB.out.cell (World.block_lt_of_cell? w _ d_y)).trans d_y
          replace d_z:=(HB.out.cell (World.block_lt_of_cell? w _ d_z)).trans d_z
          replace d_A:=(HB.out.cell (World.block_lt_of_cell? w _ d_A)).trans d_A
          replace d_B:=(HB.out.cell (World.block_lt_of_cell? w _ d_B)).trans d_B
          replace d_C:=(HB.out.cell (World.block_lt_of_cell? w _ d_C)).trans d_C
          replace d_D:=(HB.out.cell (World.block_lt_of_cell? w _ d_D)).trans d_D
          replace d_E:=(HB.out.cell (World.block_lt_of_cell? w _ d_E)).trans d_E
          replace c_K:=(HB.out.cell (World.block_lt_of_cell? w _ c_K)).trans c_K
          replace p215:=eq_true p215
          replace q215:=eq_true q215
          go_wp2_with (first|((with_reducible refine a_G (N:=7) rfl ?_);refine a_C ?hg (N:=7) ?hd (cs:=#[.int .i64 0,.int .i64 0,.int .i64 0,.int .i64 0,.int .i64 0,.bool false,.bool false,.int .u32 0,.int .i64 0,.int .i64 0,.int .i64 0]) (t:=33) ?hr ?_;(case hd => rfl);(case hg => rfl);(case hr => first|(go_simp;done)|(go_simp;rfl));intro b_N hg w67 hbox hb;have b_k:=a_g.mk (hbox);have r_M:=a_g.mk ((by rw [hg];exact (a_n (by repeat (first|(with_reducible first|exact HB.out|apply a_j|apply a_f|apply a_k|refine a_i ?_ d_i.out|refine a_i ?_ d_Y.out)|exact HB.out))) : w.heap.size ≤ b_N));have j_R:=a_g.mk ((by rw [hg];exact (a_n (by repeat (first|(with_reducible first|exact HB.out|apply a_j|apply a_f|apply a_k|refine a_i ?_ d_i.out|refine a_i ?_ d_Y.out)|exact HB.out))) : w.heap.size ≤ b_N));have b_A:=a_g.mk ((by rw [hg];exact Nat.ne_of_lt (a_L (bup_ b_m.out)) : d_c ≠ b_N));have e_B:=a_g.mk ((by rw [hg];exact Nat.ne_of_gt (a_L (bup_ b_m.out)) : b_N ≠ d_c));have b_B:=a_g.mk ((by rw [hg];exact Nat.ne_of_lt (a_L (bup_ a_H.out)) : a_K ≠ b_N));have e_C:=a_g.mk ((by rw [hg];exact Nat.ne_of_gt (a_L (bup_ a_H.out)) : b_N ≠ a_K));replace b_m:=a_g.mk (a_m (bup_ b_m.out) hb);replace a_H:=a_g.mk (a_m (bup_ a_H.out) hb);replace HB:=a_g.mk (a_p (by repeat (first|(with_reducible first|exact HB.out|apply a_j|apply a_f|apply a_k|refine a_i ?_ d_i.out|refine a_i ?_ d_Y.out)|exact HB.out)) hb);clear hb hbox hg;have I_T:=e_B.out;have J_r:=b_A.out;have I_U:=e_C.out;have J_s:=b_B.out;have C_P : w67.cell? ⟨b_N,0,none⟩ = some (.int .i64 0):=(a_b b_k.out 0).trans rfl;have C_Q : w67.cell? ⟨b_N,1,none⟩ = some (.int .i64 0):=(a_b b_k.out 1).trans rfl;have C_R : w67.cell? ⟨b_N,2,none⟩ = some (.int .i64 0):=(a_b b_k.out 2).trans rfl;have C_S : w67.cell? ⟨b_N,3,none⟩ = some (.int .i64 0):=(a_b b_k.out 3).trans rfl;have C_T : w67.cell? ⟨b_N,4,none⟩ = some (.int .i64 0):=(a_b b_k.out 4).trans rfl;have C_U : w67.cell? ⟨b_N,5,none⟩ = some (.bool false):=(a_b b_k.out 5).trans rfl;have C_V : w67.cell? ⟨b_N,6,none⟩ = some (.bool false):=(a_b b_k.out 6).trans rfl;have C_W : w67.cell? ⟨b_N,7,none⟩ = some (.int .u32 0):=(a_b b_k.out 7).trans rfl;have C_X : w67.cell? ⟨b_N,8,none⟩ = some (.int .i64 0):=(a_b b_k.out 8).trans rfl;have C_Y : w67.cell? ⟨b_N,9,none⟩ = some (.int .i64 0):=(a_b b_k.out 9).trans rfl;have y_0 : w67.cell? ⟨b_N,10,none⟩ = some (.int .i64 0):=(a_b b_k.out 10).trans rfl;have G_x:=a_c b_k.out 0;have G_y:=a_c b_k.out 1;have G_z:=a_c b_k.out 2;have G_A:=a_c b_k.out 3;have G_B:=a_c b_k.out 4;have G_C:=a_c b_k.out 5;have G_D:=a_c b_k.out 6;have G_E:=a_c b_k.out 7;have G_F:=a_c b_k.out 8;have G_G:=a_c b_k.out 9;have z_r:=a_c b_k.out 10;have C_Z : w67.cell? ⟨a_K,0,none⟩ = some (.int .i64 ((a_a l0_1 x3_2).f0)):=(a_b a_H.out 0).trans rfl;have C_0 : w67.cell? ⟨a_K,1,none⟩ = some (.int .i64 ((a_a l0_1 x3_2).f1)):=(a_b a_H.out 1).trans rfl;have C_1 : w67.cell? ⟨a_K,2,none⟩ = some (.int .i64 ((a_a l0_1 x3_2).f2)):=(a_b a_H.out 2).trans rfl;have C_2 : w67.cell? ⟨a_K,3,none⟩ = some (.int .i64 ((a_a l0_1 x3_2).f3)):=(a_b a_H.out 3).trans rfl;have C_3 : w67.cell? ⟨a_K,4,none⟩ = some (.int .i64 ((a_a l0_1 x3_2).f4)):=(a_b a_H.out 4).trans rfl;have C_4 : w67.cell? ⟨a_K,5,none⟩ = some (.bool ((a_a l0_1 x3_2).f5)):=(a_b a_H.out 5).trans rfl;have C_5 : w67.cell? ⟨a_K,6,none⟩ = some (.bool ((a_a l0_1 x3_2).f6)):=(a_b a_H.out 6).trans rfl;have C_6 : w67.cell? ⟨a_K,7,none⟩ = some (.int .u32 ((a_a l0_1 x3_2).f7)):=(a_b a_H.out 7).trans rfl;have C_7 : w67.cell? ⟨a_K,8,none⟩ = some (.int .i64 ((a_a l0_1 x3_2).f8)):=(a_b a_H.out 8).trans rfl;have C_8 : w67.cell? ⟨a_K,9,none⟩ = some (.int .i64 ((a_a l0_1 x3_2).f9)):=(a_b a_H.out 9).trans rfl;have y_1 : w67.cell? ⟨a_K,10,none⟩ = some (.int .i64 ((a_a l0_1 x3_2).f10)):=(a_b a_H.out 10).trans rfl;have G_H:=a_c a_H.out 0;have G_I:=a_c a_H.out 1;have G_J:=a_c a_H.out 2;have G_K:=a_c a_H.out 3;have G_L:=a_c a_H.out 4;have G_M:=a_c a_H.out 5;have G_N:=a_c a_H.out 6;have G_O:=a_c a_H.out 7;have G_P:=a_c a_H.out 8;have G_Q:=a_c a_H.out 9;have z_s:=a_c a_H.out 10))
          go_roundg k4
          case measure => have:=HJ1.out;have:=HK2.out;have:=HJ9.out;have:=HK4.out;omega
          case rel => exact ⟨(x5_4),(wrap64 (x6_4 + 1)),(by first|rfl|(simp;done)|(simp [*];done)),(by first|rfl|(simp;done)|(simp [*];done)),H',⟨by have:=HJ1.out;have:=HK2.out;have:=HJ9.out;have:=HK4.out;omega⟩,⟨by (with_reducible repeat (first|refine a_e ?_ _|refine a_h ?_|refine a_d ?_ _));refine a_o ?_ b_A.out _;(with_reducible repeat (first|refine a_e ?_ _|refine a_h ?_|refine a_d ?_ _));refine a_o ?_ b_A.out _;(with_reducible repeat (first|refine a_e ?_ _|refine a_h ?_|refine a_d ?_ _));refine a_o ?_ b_A.out _;(with_reducible repeat (first|refine a_e ?_ _|refine a_h ?_|refine a_d ?_ _));refine a_o ?_ b_A.out _;(with_reducible repeat (first|refine a_e ?_ _|refine a_h ?_|refine a_d ?_ _));refine a_o ?_ b_A.out _;(with_reducible repeat (first|refine a_e ?_ _|refine a_h ?_|refine a_d ?_ _));refine a_o ?_ b_A.out _;(with_reducible repeat (first|refine a_e ?_ _|refine a_h ?_|refine a_d ?_ _));refine a_o ?_ b_A.out _;(with_reducible repeat (first|refine a_e ?_ _|refine a_h ?_|refine a_d ?_ _));refine a_o ?_ b_A.out _;(with_reducible repeat (first|refine a_e ?_ _|refine a_h ?_|refine a_d ?_ _));refine a_o ?_ b_A.out _;(with_reducible repeat (first|refine a_e ?_ _|refine a_h ?_|refine a_d ?_ _));refine a_o ?_ b_A.out _;(with_reducible repeat (first|refine a_e ?_ _|refine a_h ?_|refine a_d ?_ _));refine a_o ?_ b_A.out _;(with_reducible repeat (first|refine a_e ?_ _|refine a_h ?_|refine a_d ?_ _));exact b_m.out⟩,⟨by (with_reducible repeat (first|refine a_e ?_ _|refine a_h ?_|refine a_d ?_ _));refine a_o ?_ b_B.out _;(with_reducible repeat (first|refine a_e ?_ _|refine a_h ?_|refine a_d ?_ _));refine a_o ?_ b_B.out _;(with_reducible repeat (first|refine a_e ?_ _|refine a_h ?_|refine a_d ?_ _));refine a_o ?_ b_B.out _;(with_reducible repeat (first|refine a_e ?_ _|refine a_h ?_|refine a_d ?_ _));refine a_o ?_ b_B.out _;(with_reducible repeat (first|refine a_e ?_ _|refine a_h ?_|refine a_d ?_ _));refine a_o ?_ b_B.out _;(with_reducible repeat (first|refine a_e ?_ _|refine a_h ?_|refine a_d ?_ _));refine a_o ?_ b_B.out _;(with_reducible repeat (first|refine a_e ?_ _|refine a_h ?_|refine a_d ?_ _));refine a_o ?_ b_B.out _;(with_reducible repeat (first|refine a_e ?_ _|refine a_h ?_|refine a_d ?_ _));refine a_o ?_ b_B.out _;(with_reducible repeat (first|refine a_e ?_ _|refine a_h ?_|refine a_d ?_ _));refine a_o ?_ b_B.out _;(with_reducible repeat (first|refine a_e ?_ _|refine a_h ?_|refine a_d ?_ _));refine a_o ?_ b_B.out _;(with_reducible repeat (first|refine a_e ?_ _|refine a_h ?_|refine a_d ?_ _));refine a_o ?_ b_B.out _;(with_reducible repeat (first|refine a_e ?_ _|refine a_h ?_|refine a_d ?_ _));exact a_H.out⟩,⟨by repeat (first|(with_reducible first|exact HB.out|apply a_j|apply a_f|apply a_k|refine a_i ?_ d_i.out|refine a_i ?_ d_Y.out|refine a_i ?_ j_R.out)|exact HB.out)⟩⟩
         rw [if_pos c33] at H
         have c33b0 : (((a_a l0_1 x6_4).f1) == ((a_a l0_1 x3_2).f1)) = true:=beq_iff_eq.mpr c33
         have c33b1 : (((a_a l0_1 x6_4).f1) != ((a_a l0_1 x3_2).f1)) = false:=bne_eq_false_iff_eq.mpr c33
         clear c33
         by_cases c34 : ((a_a l0_1 x6_4).f8) = ((a_a l0_1 x3_2).f8)
         rotate_left
         ·rw [if_neg c34] at H
          have c34b0 : (((a_a l0_1 x6_4).f8) == ((a_a l0_1 x3_2).f8)) = false:=beq_eq_false_iff_ne.mpr c34
          have c34b1 : (((a_a l0_1 x6_4).f8) != ((a_a l0_1 x3_2).f8)) = true:=bne_iff_ne.mpr c34
          obtain rfl:=Option.some.inj H
          have I_P:=b_f.out
          have J_n:=e_T.out
          have u_W : wr.cell? ⟨d_c,0,none⟩ = some (.int .i64 a0_0):=(a_b b_m.out 0).trans rfl
          have u_X : wr.cell? ⟨d_c,1,none⟩ = some (.slice (some ad211) l0_1.length c0_1):=(a_b b_m.out 1).trans rfl
          have w_I:=a_c b_m.out 0
          have w_J:=a_c b_m.out 1
          have p215 : 0 ≤ (x6_4 : Int):=of_decide_eq_true (by first|(with_reducible assumption)|assumption)
          have q215 : x6_4 < (l0_1.length : Int):=of_decide_eq_true (by first|(with_reducible assumption)|assumption)
          obtain ⟨ad215,e215,d_v,d_w,d_x,d_y,d_z,d_A,d_B,d_C,d_D,d_E,c_K⟩:=c_e b_v.out x6_4 p215 q215
          obtain rfl : ad211 = ad215:=(by injection e215)
          replace d_v:=(HB.out.cell (World.block_lt_of_cell? w _ d_v)).trans d_v
          replace d_w:=(HB.out.cell (World.block_lt_of_cell? w _ d_w)).trans d_w
          replace d_x:=(HB.out.cell (World.block_lt_of_cell? w _ d_x)).trans d_x
          replace d_y:=(HB.out.cell (World.block_lt_of_cell? w _ d_y)).trans d_y
          replace d_z:=(HB.out.cell (World.block_lt_of_cell? w _ d_z)).trans d_z
          replace d_A:=(HB.out.cell (World.block_lt_of_cell? w _ d_A)).trans d_A
          replace d_B:=(HB.out.cell (World.block_lt_of_cell? w _ d_B)).trans d_B
          replace d_C:=(HB.out.cell (World.block_lt_of_cell? w _ d_C)).trans d_C
          replace d_D:=(HB.out.cell (World.block_lt_of_cell? w _ d_D)).trans d_D
          replace d_E:=(HB.out.cell (World.block_lt_of_cell? w _ d_E)).trans d_E
          replace c_K:=(HB.out.cell (World.block_lt_of_cell? w _ c_K)).trans c_K
          replace p215:=eq_true p215
          replace q215:=eq_true q215
          go_wp2_with (first|((with_reducible refine a_G (N:=7) rfl ?_);refine a_C ?hg (N:=7) ?hd (cs:=#[.int .i64 0,.int .i64 0,.int .i64 0,.int .i64 0,.int .i64 0,.bool false,.bool false,.int .u32 0,.int .i64 0,.int .i64 0,.int .i64 0]) (t:=33) ?hr ?_;(case hd => rfl);(case hg => rfl);(case hr => first|(go_simp;done)|(go_simp;rfl));intro b_N hg w60 hbox hb;have b_k:=a_g.mk (hbox);have r_M:=a_g.mk ((by rw [hg];exact (a_n (by repeat (first|(with_reducible first|exact HB.out|apply a_j|apply a_f|apply a_k|refine a_i ?_ d_i.out|refine a_i ?_ d_Y.out)|exact HB.out))) : w.heap.size ≤ b_N));have j_R:=a_g.mk ((by rw [hg];exact (a_n (by repeat (first|(with_reducible first|exact HB.out|apply a_j|apply a_f|apply a_k|refine a_i ?_ d_i.out|refine a_i ?_ d_Y.out)|exact HB.out))) : w.heap.size ≤ b_N));have b_A:=a_g.mk ((by rw [hg];exact Nat.ne_of_lt (a_L (bup_ b_m.out)) : d_c ≠ b_N));have e_B:=a_g.mk ((by rw [hg];exact Nat.ne_of_gt (a_L (bup_ b_m.out)) : b_N ≠ d_c));have b_B:=a_g.mk ((by rw [hg];exact Nat.ne_of_lt (a_L (bup_ a_H.out)) : a_K ≠ b_N));have e_C:=a_g.mk ((by rw [hg];exact Nat.ne_of_gt (a_L (bup_ a_H.out)) : b_N ≠ a_K));replace b_m:=a_g.mk (a_m (bup_ b_m.out) hb);replace a_H:=a_g.mk (a_m (bup_ a_H.out) hb);replace HB:=a_g.mk (a_p (by repeat (first|(with_reducible first|exact HB.out|apply a_j|apply a_f|apply a_k|refine a_i ?_ d_i.out|refine a_i ?_ d_Y.out)|exact HB.out)) hb);clear hb hbox hg;have H_r:=e_B.out;have H_B:=b_A.out;have I_R:=e_C.out;have J_p:=b_B.out;have q_r : w60.cell? ⟨b_N,0,none⟩ = some (.int .i64 0):=(a_b b_k.out 0).trans rfl;have q_s : w60.cell? ⟨b_N,1,none⟩ = some (.int .i64 0):=(a_b b_k.out 1).trans rfl;have C_t : w60.cell? ⟨b_N,2,none⟩ = some (.int .i64 0):=(a_b b_k.out 2).trans rfl;have C_u : w60.cell? ⟨b_N,3,none⟩ = some (.int .i64 0):=(a_b b_k.out 3).trans rfl;have C_v : w60.cell? ⟨b_N,4,none⟩ = some (.int .i64 0):=(a_b b_k.out 4).trans rfl;have C_w : w60.cell? ⟨b_N,5,none⟩ = some (.bool false):=(a_b b_k.out 5).trans rfl;have C_x : w60.cell? ⟨b_N,6,none⟩ = some (.bool false):=(a_b b_k.out 6).trans rfl;have C_y : w60.cell? ⟨b_N,7,none⟩ = some (.int .u32 0):=(a_b b_k.out 7).trans rfl;have C_z : w60.cell? ⟨b_N,8,none⟩ = some (.int .i64 0):=(a_b b_k.out 8).trans rfl;have C_A : w60.cell? ⟨b_N,9,none⟩ = some (.int .i64 0):=(a_b b_k.out 9).trans rfl;have y_Y : w60.cell? ⟨b_N,10,none⟩ = some (.int .i64 0):=(a_b b_k.out 10).trans rfl;have r_h:=a_c b_k.out 0;have r_i:=a_c b_k.out 1;have G_b:=a_c b_k.out 2;have G_c:=a_c b_k.out 3;have G_d:=a_c b_k.out 4;have G_e:=a_c b_k.out 5;have G_f:=a_c b_k.out 6;have G_g:=a_c b_k.out 7;have G_h:=a_c b_k.out 8;have G_i:=a_c b_k.out 9;have z_p:=a_c b_k.out 10;have C_B : w60.cell? ⟨a_K,0,none⟩ = some (.int .i64 ((a_a l0_1 x3_2).f0)):=(a_b a_H.out 0).trans rfl;have C_C : w60.cell? ⟨a_K,1,none⟩ = some (.int .i64 ((a_a l0_1 x3_2).f1)):=(a_b a_H.out 1).trans rfl;have C_D : w60.cell? ⟨a_K,2,none⟩ = some (.int .i64 ((a_a l0_1 x3_2).f2)):=(a_b a_H.out 2).trans rfl;have C_E : w60.cell? ⟨a_K,3,none⟩ = some (.int .i64 ((a_a l0_1 x3_2).f3)):=(a_b a_H.out 3).trans rfl;have C_F : w60.cell? ⟨a_K,4,none⟩ = some (.int .i64 ((a_a l0_1 x3_2).f4)):=(a_b a_H.out 4).trans rfl;have C_G : w60.cell? ⟨a_K,5,none⟩ = some (.bool ((a_a l0_1 x3_2).f5)):=(a_b a_H.out 5).trans rfl;have C_H : w60.cell? ⟨a_K,6,none⟩ = some (.bool ((a_a l0_1 x3_2).f6)):=(a_b a_H.out 6).trans rfl;have C_I : w60.cell? ⟨a_K,7,none⟩ = some (.int .u32 ((a_a l0_1 x3_2).f7)):=(a_b a_H.out 7).trans rfl;have C_J : w60.cell? ⟨a_K,8,none⟩ = some (.int .i64 ((a_a l0_1 x3_2).f8)):=(a_b a_H.out 8).trans rfl;have C_K : w60.cell? ⟨a_K,9,none⟩ = some (.int .i64 ((a_a l0_1 x3_2).f9)):=(a_b a_H.out 9).trans rfl;have y_Z : w60.cell? ⟨a_K,10,none⟩ = some (.int .i64 ((a_a l0_1 x3_2).f10)):=(a_b a_H.out 10).trans rfl;have G_j:=a_c a_H.out 0;have G_k:=a_c a_H.out 1;have G_l:=a_c a_H.out 2;have G_m:=a_c a_H.out 3;have G_n:=a_c a_H.out 4;have G_o:=a_c a_H.out 5;have G_p:=a_c a_H.out 6;have G_q:=a_c a_H.out 7;have G_r:=a_c a_H.out 8;have G_s:=a_c a_H.out 9;have z_q:=a_c a_H.out 10))
          go_ret
          exact ⟨by first|rfl|(simp [a_u,a_v] <;> rfl)|(simp [*, a_u,a_v] <;> rfl),by repeat (first|(with_reducible first|exact HB.out|apply a_j|apply a_f|apply a_k|refine a_i ?_ d_i.out|refine a_i ?_ d_Y.out|refine a_i ?_ j_R.out)|exact HB.out)⟩
         rw [if_pos c34] at H
         have c34b0 : (((a_a l0_1 x6_4).f8) == ((a_a l0_1 x3_2).f8)) = true:=beq_iff_eq.mpr c34
         have c34b1 : (((a_a l0_1 x6_4).f8) != ((a_a l0_1 x3_2).f8)) = false:=bne_eq_false_iff_eq.mpr c34
         clear c34
         by_cases c35 : ((a_a l0_1 x6_4).f9) = ((a_a l0_1 x3_2).f9)
         rotate_left
         ·rw [if_neg c35] at H
          have c35b0 : (((a_a l0_1 x6_4).f9) == ((a_a l0_1 x3_2).f9)) = false:=beq_eq_false_iff_ne.mpr c35
          have c35b1 : (((a_a l0_1 x6_4).f9) != ((a_a l0_1 x3_2).f9)) = true:=bne_iff_ne.mpr c35
          obtain rfl:=Option.some.inj H
          have I_J:=b_f.out
          have J_h:=e_T.out
          have u_R : wr.cell? ⟨d_c,0,none⟩ = some (.int .i64 a0_0):=(a_b b_m.out 0).trans rfl
          have u_S : wr.cell? ⟨d_c,1,none⟩ = some (.slice (some ad211) l0_1.length c0_1):=(a_b b_m.out 1).trans rfl
          have w_D:=a_c b_m.out 0
          have w_E:=a_c b_m.out 1
          have p215 : 0 ≤ (x6_4 : Int):=of_decide_eq_true (by first|(with_reducible assumption)|assumption)
          have q215 : x6_4 < (l0_1.length : Int):=of_decide_eq_true (by first|(with_reducible assumption)|assumption)
          obtain ⟨ad215,e215,d_v,d_w,d_x,d_y,d_z,d_A,d_B,d_C,d_D,d_E,c_K⟩:=c_e b_v.out x6_4 p215 q215
          obtain rfl : ad211 = ad215:=(by injection e215)
          replace d_v:=(HB.out.cell (World.block_lt_of_cell? w _ d_v)).trans d_v
          replace d_w:=(HB.out.cell (World.block_lt_of_cell? w _ d_w)).trans d_w
          replace d_x:=(HB.out.cell (World.block_lt_of_cell? w _ d_x)).trans d_x
          replace d_y:=(HB.out.cell (World.block_lt_of_cell? w _ d_y)).trans d_y
          replace d_z:=(HB.out.cell (World.block_lt_of_cell? w _ d_z)).trans d_z
          replace d_A:=(HB.out.cell (World.block_lt_of_cell? w _ d_A)).trans d_A
          replace d_B:=(HB.out.cell (World.block_lt_of_cell? w _ d_B)).trans d_B
          replace d_C:=(HB.out.cell (World.block_lt_of_cell? w _ d_C)).trans d_C
          replace d_D:=(HB.out.cell (World.block_lt_of_cell? w _ d_D)).trans d_D
          replace d_E:=(HB.out.cell (World.block_lt_of_cell? w _ d_E)).trans d_E
          replace c_K:=(HB.out.cell (World.block_lt_of_cell? w _ c_K)).trans c_K
          replace p215:=eq_true p215
          replace q215:=eq_true q215
          go_wp2_with (first|((with_reducible refine a_G (N:=7) rfl ?_);refine a_C ?hg (N:=7) ?hd (cs:=#[.int .i64 0,.int .i64 0,.int .i64 0,.int .i64 0,.int .i64 0,.bool false,.bool false,.int .u32 0,.int .i64 0,.int .i64 0,.int .i64 0]) (t:=33) ?hr ?_;(case hd => rfl);(case hg => rfl);(case hr => first|(go_simp;done)|(go_simp;rfl));intro b_N hg w53 hbox hb;have b_k:=a_g.mk (hbox);have r_M:=a_g.mk ((by rw [hg];exact (a_n (by repeat (first|(with_reducible first|exact HB.out|apply a_j|apply a_f|apply a_k|refine a_i ?_ d_i.out|refine a_i ?_ d_Y.out)|exact HB.out))) : w.heap.size ≤ b_N));have j_R:=a_g.mk ((by rw [hg];exact (a_n (by repeat (first|(with_reducible first|exact HB.out|apply a_j|apply a_f|apply a_k|refine a_i ?_ d_i.out|refine a_i ?_ d_Y.out)|exact HB.out))) : w.heap.size ≤ b_N));have b_A:=a_g.mk ((by rw [hg];exact Nat.ne_of_lt (a_L (bup_ b_m.out)) : d_c ≠ b_N));have e_B:=a_g.mk ((by rw [hg];exact Nat.ne_of_gt (a_L (bup_ b_m.out)) : b_N ≠ d_c));have b_B:=a_g.mk ((by rw [hg];exact Nat.ne_of_lt (a_L (bup_ a_H.out)) : a_K ≠ b_N));have e_C:=a_g.mk ((by rw [hg];exact Nat.ne_of_gt (a_L (bup_ a_H.out)) : b_N ≠ a_K));replace b_m:=a_g.mk (a_m (bup_ b_m.out) hb);replace a_H:=a_g.mk (a_m (bup_ a_H.out) hb);replace HB:=a_g.mk (a_p (by repeat (first|(with_reducible first|exact HB.out|apply a_j|apply a_f|apply a_k|refine a_i ?_ d_i.out|refine a_i ?_ d_Y.out)|exact HB.out)) hb);clear hb hbox hg;have I_L:=e_B.out;have J_j:=b_A.out;have I_M:=e_C.out;have J_k:=b_B.out;have u_T : w53.cell? ⟨b_N,0,none⟩ = some (.int .i64 0):=(a_b b_k.out 0).trans rfl;have u_U : w53.cell? ⟨b_N,1,none⟩ = some (.int .i64 0):=(a_b b_k.out 1).trans rfl;have B_Y : w53.cell? ⟨b_N,2,none⟩ = some (.int .i64 0):=(a_b b_k.out 2).trans rfl;have B_Z : w53.cell? ⟨b_N,3,none⟩ = some (.int .i64 0):=(a_b b_k.out 3).trans rfl;have B_0 : w53.cell? ⟨b_N,4,none⟩ = some (.int .i64 0):=(a_b b_k.out 4).trans rfl;have B_1 : w53.cell? ⟨b_N,5,none⟩ = some (.bool false):=(a_b b_k.out 5).trans rfl;have B_2 : w53.cell? ⟨b_N,6,none⟩ = some (.bool false):=(a_b b_k.out 6).trans rfl;have B_3 : w53.cell? ⟨b_N,7,none⟩ = some (.int .u32 0):=(a_b b_k.out 7).trans rfl;have B_4 : w53.cell? ⟨b_N,8,none⟩ = some (.int .i64 0):=(a_b b_k.out 8).trans rfl;have B_5 : w53.cell? ⟨b_N,9,none⟩ = some (.int .i64 0):=(a_b b_k.out 9).trans rfl;have y_V : w53.cell? ⟨b_N,10,none⟩ = some (.int .i64 0):=(a_b b_k.out 10).trans rfl;have w_F:=a_c b_k.out 0;have w_G:=a_c b_k.out 1;have F_G:=a_c b_k.out 2;have F_H:=a_c b_k.out 3;have F_I:=a_c b_k.out 4;have F_J:=a_c b_k.out 5;have F_K:=a_c b_k.out 6;have F_L:=a_c b_k.out 7;have F_M:=a_c b_k.out 8;have F_N:=a_c b_k.out 9;have z_m:=a_c b_k.out 10;have B_6 : w53.cell? ⟨a_K,0,none⟩ = some (.int .i64 ((a_a l0_1 x3_2).f0)):=(a_b a_H.out 0).trans rfl;have B_7 : w53.cell? ⟨a_K,1,none⟩ = some (.int .i64 ((a_a l0_1 x3_2).f1)):=(a_b a_H.out 1).trans rfl;have B_8 : w53.cell? ⟨a_K,2,none⟩ = some (.int .i64 ((a_a l0_1 x3_2).f2)):=(a_b a_H.out 2).trans rfl;have B_9 : w53.cell? ⟨a_K,3,none⟩ = some (.int .i64 ((a_a l0_1 x3_2).f3)):=(a_b a_H.out 3).trans rfl;have C_a : w53.cell? ⟨a_K,4,none⟩ = some (.int .i64 ((a_a l0_1 x3_2).f4)):=(a_b a_H.out 4).trans rfl;have C_b : w53.cell? ⟨a_K,5,none⟩ = some (.bool ((a_a l0_1 x3_2).f5)):=(a_b a_H.out 5).trans rfl;have C_c : w53.cell? ⟨a_K,6,none⟩ = some (.bool ((a_a l0_1 x3_2).f6)):=(a_b a_H.out 6).trans rfl;have C_d : w53.cell? ⟨a_K,7,none⟩ = some (.int .u32 ((a_a l0_1 x3_2).f7)):=(a_b a_H.out 7).trans rfl;have C_e : w53.cell? ⟨a_K,8,none⟩ = some (.int .i64 ((a_a l0_1 x3_2).f8)):=(a_b a_H.out 8).trans rfl;have C_f : w53.cell? ⟨a_K,9,none⟩ = some (.int .i64 ((a_a l0_1 x3_2).f9)):=(a_b a_H.out 9).trans rfl;have y_W : w53.cell? ⟨a_K,10,none⟩ = some (.int .i64 ((a_a l0_1 x3_2).f10)):=(a_b a_H.out 10).trans rfl;have F_O:=a_c a_H.out 0;have F_P:=a_c a_H.out 1;have F_Q:=a_c a_H.out 2;have F_R:=a_c a_H.out 3;have F_S:=a_c a_H.out 4;have F_T:=a_c a_H.out 5;have F_U:=a_c a_H.out 6;have F_V:=a_c a_H.out 7;have F_W:=a_c a_H.out 8;have F_X:=a_c a_H.out 9;have z_n:=a_c a_H.out 10))
          go_ret
          exact ⟨by first|rfl|(simp [a_u,a_v] <;> rfl)|(simp [*, a_u,a_v] <;> rfl),by repeat (first|(with_reducible first|exact HB.out|apply a_j|apply a_f|apply a_k|refine a_i ?_ d_i.out|refine a_i ?_ d_Y.out|refine a_i ?_ j_R.out)|exact HB.out)⟩
         rw [if_pos c35] at H
         have c35b0 : (((a_a l0_1 x6_4).f9) == ((a_a l0_1 x3_2).f9)) = true:=beq_iff_eq.mpr c35
         have c35b1 : (((a_a l0_1 x6_4).f9) != ((a_a l0_1 x3_2).f9)) = false:=bne_eq_false_iff_eq.mpr c35
         clear c35
         by_cases c36 : ((a_a l0_1 x6_4).f10) = ((a_a l0_1 x3_2).f10)
         rotate_left
         ·rw [if_neg c36] at H
          have c36b0 : (((a_a l0_1 x6_4).f10) == ((a_a l0_1 x3_2).f10)) = false:=beq_eq_false_iff_ne.mpr c36
          have c36b1 : (((a_a l0_1 x6_4).f10) != ((a_a l0_1 x3_2).f10)) = true:=bne_iff_ne.mpr c36
          obtain rfl:=Option.some.inj H
          have I_E:=b_f.out
          have J_c:=e_T.out
          have u_C : wr.cell? ⟨d_c,0,none⟩ = some (.int .i64 a0_0):=(a_b b_m.out 0).trans rfl
          have u_D : wr.cell? ⟨d_c,1,none⟩ = some (.slice (some ad211) l0_1.length c0_1):=(a_b b_m.out 1).trans rfl
          have w_o:=a_c b_m.out 0
          have w_p:=a_c b_m.out 1
          have p215 : 0 ≤ (x6_4 : Int):=of_decide_eq_true (by first|(with_reducible assumption)|assumption)
          have q215 : x6_4 < (l0_1.length : Int):=of_decide_eq_true (by first|(with_reducible assumption)|assumption)
          obtain ⟨ad215,e215,d_v,d_w,d_x,d_y,d_z,d_A,d_B,d_C,d_D,d_E,c_K⟩:=c_e b_v.out x6_4 p215 q215
          obtain rfl : ad211 = ad215:=(by injection e215)
          replace d_v:=(HB.out.cell (World.block_lt_of_cell? w _ d_v)).trans d_v
          replace d_w:=(HB.out.cell (World.block_lt_of_cell? w _ d_w)).trans d_w
          replace d_x:=(HB.out.cell (World.block_lt_of_cell? w _ d_x)).trans d_x
          replace d_y:=(HB.out.cell (World.block_lt_of_cell? w _ d_y)).trans d_y
          replace d_z:=(HB.out.cell (World.block_lt_of_cell? w _ d_z)).trans d_z
          replace d_A:=(HB.out.cell (World.block_lt_of_cell? w _ d_A)).trans d_A
          replace d_B:=(HB.out.cell (World.block_lt_of_cell? w _ d_B)).trans d_B
          replace d_C:=(HB.out.cell (World.block_lt_of_cell? w _ d_C)).trans d_C
          replace d_D:=(HB.out.cell (World.block_lt_of_cell? w _ d_D)).trans d_D
          replace d_E:=(HB.out.cell (World.block_lt_of_cell? w _ d_E)).trans d_E
          replace c_K:=(HB.out.cell (World.block_lt_of_cell? w _ c_K)).trans c_K
          replace p215:=eq_true p215
          replace q215:=eq_true q215
          go_wp2_with (first|((with_reducible refine a_G (N:=7) rfl ?_);refine a_C ?hg (N:=7) ?hd (cs:=#[.int .i64 0,.int .i64 0,.int .i64 0,.int .i64 0,.int .i64 0,.bool false,.bool false,.int .u32 0,.int .i64 0,.int .i64 0,.int .i64 0]) (t:=33) ?hr ?_;(case hd => rfl);(case hg => rfl);(case hr => first|(go_simp;done)|(go_simp;rfl));intro b_N hg w46 hbox hb;have b_k:=a_g.mk (hbox);have r_M:=a_g.mk ((by rw [hg];exact (a_n (by repeat (first|(with_reducible first|exact HB.out|apply a_j|apply a_f|apply a_k|refine a_i ?_ d_i.out|refine a_i ?_ d_Y.out)|exact HB.out))) : w.heap.size ≤ b_N));have j_R:=a_g.mk ((by rw [hg];exact (a_n (by repeat (first|(with_reducible first|exact HB.out|apply a_j|apply a_f|apply a_k|refine a_i ?_ d_i.out|refine a_i ?_ d_Y.out)|exact HB.out))) : w.heap.size ≤ b_N));have b_A:=a_g.mk ((by rw [hg];exact Nat.ne_of_lt (a_L (bup_ b_m.out)) : d_c ≠ b_N));have e_B:=a_g.mk ((by rw [hg];exact Nat.ne_of_gt (a_L (bup_ b_m.out)) : b_N ≠ d_c));have b_B:=a_g.mk ((by rw [hg];exact Nat.ne_of_lt (a_L (bup_ a_H.out)) : a_K ≠ b_N));have e_C:=a_g.mk ((by rw [hg];exact Nat.ne_of_gt (a_L (bup_ a_H.out)) : b_N ≠ a_K));replace b_m:=a_g.mk (a_m (bup_ b_m.out) hb);replace a_H:=a_g.mk (a_m (bup_ a_H.out) hb);replace HB:=a_g.mk (a_p (by repeat (first|(with_reducible first|exact HB.out|apply a_j|apply a_f|apply a_k|refine a_i ?_ d_i.out|refine a_i ?_ d_Y.out)|exact HB.out)) hb);clear hb hbox hg;have y_d:=e_B.out;have y_k:=b_A.out;have I_G:=e_C.out;have J_e:=b_B.out;have u_F : w46.cell? ⟨b_N,0,none⟩ = some (.int .i64 0):=(a_b b_k.out 0).trans rfl;have u_G : w46.cell? ⟨b_N,1,none⟩ = some (.int .i64 0):=(a_b b_k.out 1).trans rfl;have B_p : w46.cell? ⟨b_N,2,none⟩ = some (.int .i64 0):=(a_b b_k.out 2).trans rfl;have B_q : w46.cell? ⟨b_N,3,none⟩ = some (.int .i64 0):=(a_b b_k.out 3).trans rfl;have B_r : w46.cell? ⟨b_N,4,none⟩ = some (.int .i64 0):=(a_b b_k.out 4).trans rfl;have B_s : w46.cell? ⟨b_N,5,none⟩ = some (.bool false):=(a_b b_k.out 5).trans rfl;have B_t : w46.cell? ⟨b_N,6,none⟩ = some (.bool false):=(a_b b_k.out 6).trans rfl;have B_u : w46.cell? ⟨b_N,7,none⟩ = some (.int .u32 0):=(a_b b_k.out 7).trans rfl;have B_v : w46.cell? ⟨b_N,8,none⟩ = some (.int .i64 0):=(a_b b_k.out 8).trans rfl;have B_w : w46.cell? ⟨b_N,9,none⟩ = some (.int .i64 0):=(a_b b_k.out 9).trans rfl;have y_R : w46.cell? ⟨b_N,10,none⟩ = some (.int .i64 0):=(a_b b_k.out 10).trans rfl;have w_r:=a_c b_k.out 0;have w_s:=a_c b_k.out 1;have E_7:=a_c b_k.out 2;have E_8:=a_c b_k.out 3;have E_9:=a_c b_k.out 4;have F_a:=a_c b_k.out 5;have F_b:=a_c b_k.out 6;have F_c:=a_c b_k.out 7;have F_d:=a_c b_k.out 8;have F_e:=a_c b_k.out 9;have z_i:=a_c b_k.out 10;have u_H : w46.cell? ⟨a_K,0,none⟩ = some (.int .i64 ((a_a l0_1 x3_2).f0)):=(a_b a_H.out 0).trans rfl;have u_I : w46.cell? ⟨a_K,1,none⟩ = some (.int .i64 ((a_a l0_1 x3_2).f1)):=(a_b a_H.out 1).trans rfl;have u_J : w46.cell? ⟨a_K,2,none⟩ = some (.int .i64 ((a_a l0_1 x3_2).f2)):=(a_b a_H.out 2).trans rfl;have u_K : w46.cell? ⟨a_K,3,none⟩ = some (.int .i64 ((a_a l0_1 x3_2).f3)):=(a_b a_H.out 3).trans rfl;have u_L : w46.cell? ⟨a_K,4,none⟩ = some (.int .i64 ((a_a l0_1 x3_2).f4)):=(a_b a_H.out 4).trans rfl;have u_M : w46.cell? ⟨a_K,5,none⟩ = some (.bool ((a_a l0_1 x3_2).f5)):=(a_b a_H.out 5).trans rfl;have u_N : w46.cell? ⟨a_K,6,none⟩ = some (.bool ((a_a l0_1 x3_2).f6)):=(a_b a_H.out 6).trans rfl;have u_O : w46.cell? ⟨a_K,7,none⟩ = some (.int .u32 ((a_a l0_1 x3_2).f7)):=(a_b a_H.out 7).trans rfl;have u_P : w46.cell? ⟨a_K,8,none⟩ = some (.int .i64 ((a_a l0_1 x3_2).f8)):=(a_b a_H.out 8).trans rfl;have u_Q : w46.cell? ⟨a_K,9,none⟩ = some (.int .i64 ((a_a l0_1 x3_2).f9)):=(a_b a_H.out 9).trans rfl;have s_a : w46.cell? ⟨a_K,10,none⟩ = some (.int .i64 ((a_a l0_1 x3_2).f10)):=(a_b a_H.out 10).trans rfl;have w_t:=a_c a_H.out 0;have w_u:=a_c a_H.out 1;have w_v:=a_c a_H.out 2;have w_w:=a_c a_H.out 3;have w_x:=a_c a_H.out 4;have w_y:=a_c a_H.out 5;have w_z:=a_c a_H.out 6;have w_A:=a_c a_H.out 7;have w_B:=a_c a_H.out 8;have w_C:=a_c a_H.out 9;have s_k:=a_c a_H.out 10))
          go_ret
          exact ⟨by first|rfl|(simp [a_u,a_v] <;> rfl)|(simp [*, a_u,a_v] <;> rfl),by repeat (first|(with_reducible first|exact HB.out|apply a_j|apply a_f|apply a_k|refine a_i ?_ d_i.out|refine a_i ?_ d_Y.out|refine a_i ?_ j_R.out)|exact HB.out)⟩
         rw [if_pos c36] at H
         have c36b0 : (((a_a l0_1 x6_4).f10) == ((a_a l0_1 x3_2).f10)) = true:=beq_iff_eq.mpr c36
         have c36b1 : (((a_a l0_1 x6_4).f10) != ((a_a l0_1 x3_2).f10)) = false:=bne_eq_false_iff_eq.mpr c36
         clear c36
         have H':=a_g.mk H
         clear H
         have I_A:=b_f.out
         have I_8:=e_T.out
         have m_T : wr.cell? ⟨d_c,0,none⟩ = some (.int .i64 a0_0):=(a_b b_m.out 0).trans rfl
         have m_U : wr.cell? ⟨d_c,1,none⟩ = some (.slice (some ad211) l0_1.length c0_1):=(a_b b_m.out 1).trans rfl
         have n_q:=a_c b_m.out 0
         have n_r:=a_c b_m.out 1
         have p215 : 0 ≤ (x6_4 : Int):=of_decide_eq_true (by first|(with_reducible assumption)|assumption)
         have q215 : x6_4 < (l0_1.length : Int):=of_decide_eq_true (by first|(with_reducible assumption)|assumption)
         obtain ⟨ad215,e215,d_v,d_w,d_x,d_y,d_z,d_A,d_B,d_C,d_D,d_E,c_K⟩:=c_e b_v.out x6_4 p215 q215
         obtain rfl : ad211 = ad215:=(by injection e215)
         replace d_v:=(HB.out.cell (World.block_lt_of_cell? w _ d_v)).trans d_v
         replace d_w:=(HB.out.cell (World.block_lt_of_cell? w _ d_w)).trans d_w
         replace d_x:=(HB.out.cell (World.block_lt_of_cell? w _ d_x)).trans d_x
         replace d_y:=(HB.out.cell (World.block_lt_of_cell? w _ d_y)).trans d_y
         replace d_z:=(HB.out.cell (World.block_lt_of_cell? w _ d_z)).trans d_z
         replace d_A:=(HB.out.cell (World.block_lt_of_cell? w _ d_A)).trans d_A
         replace d_B:=(HB.out.cell (World.block_lt_of_cell? w _ d_B)).trans d_B
         replace d_C:=(HB.out.cell (World.block_lt_of_cell? w _ d_C)).trans d_C
         replace d_D:=(HB.out.cell (World.block_lt_of_cell? w _ d_D)).trans d_D
         replace d_E:=(HB.out.cell (World.block_lt_of_cell? w _ d_E)).trans d_E
         replace c_K:=(HB.out.cell (World.block_lt_of_cell? w _ c_K)).trans c_K
         replace p215:=eq_true p215
         replace q215:=eq_true q215
         go_wp2_with (first|((with_reducible refine a_G (N:=7) rfl ?_);refine a_C ?hg (N:=7) ?hd (cs:=#[.int .i64 0,.int .i64 0,.int .i64 0,.int .i64 0,.int .i64 0,.bool false,.bool false,.int .u32 0,.int .i64 0,.int .i64 0,.int .i64 0]) (t:=33) ?hr ?_;(case hd => rfl);(case hg => rfl);(case hr => first|(go_simp;done)|(go_simp;rfl));intro b_N hg w39 hbox hb;have b_k:=a_g.mk (hbox);have r_M:=a_g.mk ((by rw [hg];exact (a_n (by repeat (first|(with_reducible first|exact HB.out|apply a_j|apply a_f|apply a_k|refine a_i ?_ d_i.out|refine a_i ?_ d_Y.out)|exact HB.out))) : w.heap.size ≤ b_N));have j_R:=a_g.mk ((by rw [hg];exact (a_n (by repeat (first|(with_reducible first|exact HB.out|apply a_j|apply a_f|apply a_k|refine a_i ?_ d_i.out|refine a_i ?_ d_Y.out)|exact HB.out))) : w.heap.size ≤ b_N));have b_A:=a_g.mk ((by rw [hg];exact Nat.ne_of_lt (a_L (bup_ b_m.out)) : d_c ≠ b_N));have e_B:=a_g.mk ((by rw [hg];exact Nat.ne_of_gt (a_L (bup_ b_m.out)) : b_N ≠ d_c));have b_B:=a_g.mk ((by rw [hg];exact Nat.ne_of_lt (a_L (bup_ a_H.out)) : a_K ≠ b_N));have e_C:=a_g.mk ((by rw [hg];exact Nat.ne_of_gt (a_L (bup_ a_H.out)) : b_N ≠ a_K));replace b_m:=a_g.mk (a_m (bup_ b_m.out) hb);replace a_H:=a_g.mk (a_m (bup_ a_H.out) hb);replace HB:=a_g.mk (a_p (by repeat (first|(with_reducible first|exact HB.out|apply a_j|apply a_f|apply a_k|refine a_i ?_ d_i.out|refine a_i ?_ d_Y.out)|exact HB.out)) hb);clear hb hbox hg;have I_C:=e_B.out;have J_a:=b_A.out;have H_q:=e_C.out;have H_A:=b_B.out;have m_V : w39.cell? ⟨b_N,0,none⟩ = some (.int .i64 0):=(a_b b_k.out 0).trans rfl;have m_W : w39.cell? ⟨b_N,1,none⟩ = some (.int .i64 0):=(a_b b_k.out 1).trans rfl;have u_i : w39.cell? ⟨b_N,2,none⟩ = some (.int .i64 0):=(a_b b_k.out 2).trans rfl;have u_j : w39.cell? ⟨b_N,3,none⟩ = some (.int .i64 0):=(a_b b_k.out 3).trans rfl;have u_k : w39.cell? ⟨b_N,4,none⟩ = some (.int .i64 0):=(a_b b_k.out 4).trans rfl;have u_l : w39.cell? ⟨b_N,5,none⟩ = some (.bool false):=(a_b b_k.out 5).trans rfl;have u_m : w39.cell? ⟨b_N,6,none⟩ = some (.bool false):=(a_b b_k.out 6).trans rfl;have u_n : w39.cell? ⟨b_N,7,none⟩ = some (.int .u32 0):=(a_b b_k.out 7).trans rfl;have u_o : w39.cell? ⟨b_N,8,none⟩ = some (.int .i64 0):=(a_b b_k.out 8).trans rfl;have u_p : w39.cell? ⟨b_N,9,none⟩ = some (.int .i64 0):=(a_b b_k.out 9).trans rfl;have r_8 : w39.cell? ⟨b_N,10,none⟩ = some (.int .i64 0):=(a_b b_k.out 10).trans rfl;have n_s:=a_c b_k.out 0;have n_t:=a_c b_k.out 1;have v_4:=a_c b_k.out 2;have v_5:=a_c b_k.out 3;have v_6:=a_c b_k.out 4;have v_7:=a_c b_k.out 5;have v_8:=a_c b_k.out 6;have v_9:=a_c b_k.out 7;have w_a:=a_c b_k.out 8;have w_b:=a_c b_k.out 9;have s_i:=a_c b_k.out 10;have u_q : w39.cell? ⟨a_K,0,none⟩ = some (.int .i64 ((a_a l0_1 x3_2).f0)):=(a_b a_H.out 0).trans rfl;have u_r : w39.cell? ⟨a_K,1,none⟩ = some (.int .i64 ((a_a l0_1 x3_2).f1)):=(a_b a_H.out 1).trans rfl;have A_X : w39.cell? ⟨a_K,2,none⟩ = some (.int .i64 ((a_a l0_1 x3_2).f2)):=(a_b a_H.out 2).trans rfl;have A_Y : w39.cell? ⟨a_K,3,none⟩ = some (.int .i64 ((a_a l0_1 x3_2).f3)):=(a_b a_H.out 3).trans rfl;have A_Z : w39.cell? ⟨a_K,4,none⟩ = some (.int .i64 ((a_a l0_1 x3_2).f4)):=(a_b a_H.out 4).trans rfl;have A_0 : w39.cell? ⟨a_K,5,none⟩ = some (.bool ((a_a l0_1 x3_2).f5)):=(a_b a_H.out 5).trans rfl;have A_1 : w39.cell? ⟨a_K,6,none⟩ = some (.bool ((a_a l0_1 x3_2).f6)):=(a_b a_H.out 6).trans rfl;have A_2 : w39.cell? ⟨a_K,7,none⟩ = some (.int .u32 ((a_a l0_1 x3_2).f7)):=(a_b a_H.out 7).trans rfl;have A_3 : w39.cell? ⟨a_K,8,none⟩ = some (.int .i64 ((a_a l0_1 x3_2).f8)):=(a_b a_H.out 8).trans rfl;have A_4 : w39.cell? ⟨a_K,9,none⟩ = some (.int .i64 ((a_a l0_1 x3_2).f9)):=(a_b a_H.out 9).trans rfl;have y_O : w39.cell? ⟨a_K,10,none⟩ = some (.int .i64 ((a_a l0_1 x3_2).f10)):=(a_b a_H.out 10).trans rfl;have w_c:=a_c a_H.out 0;have w_d:=a_c a_H.out 1;have E_F:=a_c a_H.out 2;have E_G:=a_c a_H.out 3;have E_H:=a_c a_H.out 4;have E_I:=a_c a_H.out 5;have E_J:=a_c a_H.out 6;have E_K:=a_c a_H.out 7;have E_L:=a_c a_H.out 8;have E_M:=a_c a_H.out 9;have z_f:=a_c a_H.out 10))
         go_roundg k4
         case measure => have:=HJ1.out;have:=HK2.out;have:=HJ9.out;have:=HK4.out;omega
         case rel => exact ⟨(wrap64 (x5_4 + 1)),(wrap64 (x6_4 + 1)),(by first|rfl|(simp;done)|(simp [*];done)),(by first|rfl|(simp;done)|(simp [*];done)),H',⟨by have:=HJ1.out;have:=HK2.out;have:=HJ9.out;have:=HK4.out;omega⟩,⟨by (with_reducible repeat (first|refine a_e ?_ _|refine a_h ?_|refine a_d ?_ _));refine a_o ?_ b_A.out _;(with_reducible repeat (first|refine a_e ?_ _|refine a_h ?_|refine a_d ?_ _));refine a_o ?_ b_A.out _;(with_reducible repeat (first|refine a_e ?_ _|refine a_h ?_|refine a_d ?_ _));refine a_o ?_ b_A.out _;(with_reducible repeat (first|refine a_e ?_ _|refine a_h ?_|refine a_d ?_ _));refine a_o ?_ b_A.out _;(with_reducible repeat (first|refine a_e ?_ _|refine a_h ?_|refine a_d ?_ _));refine a_o ?_ b_A.out _;(with_reducible repeat (first|refine a_e ?_ _|refine a_h ?_|refine a_d ?_ _));refine a_o ?_ b_A.out _;(with_reducible repeat (first|refine a_e ?_ _|refine a_h ?_|refine a_d ?_ _));refine a_o ?_ b_A.out _;(with_reducible repeat (first|refine a_e ?_ _|refine a_h ?_|refine a_d ?_ _));refine a_o ?_ b_A.out _;(with_reducible repeat (first|refine a_e ?_ _|refine a_h ?_|refine a_d ?_ _));refine a_o ?_ b_A.out _;(with_reducible repeat (first|refine a_e ?_ _|refine a_h ?_|refine a_d ?_ _));refine a_o ?_ b_A.out _;(with_reducible repeat (first|refine a_e ?_ _|refine a_h ?_|refine a_d ?_ _));refine a_o ?_ b_A.out _;(with_reducible repeat (first|refine a_e ?_ _|refine a_h ?_|refine a_d ?_ _));exact b_m.out⟩,⟨by (with_reducible repeat (first|refine a_e ?_ _|refine a_h ?_|refine a_d ?_ _));refine a_o ?_ b_B.out _;(with_reducible repeat (first|refine a_e ?_ _|refine a_h ?_|refine a_d ?_ _));refine a_o ?_ b_B.out _;(with_reducible repeat (first|refine a_e ?_ _|refine a_h ?_|refine a_d ?_ _));refine a_o ?_ b_B.out _;(with_reducible repeat (first|refine a_e ?_ _|refine a_h ?_|refine a_d ?_ _));refine a_o ?_ b_B.out _;(with_reducible repeat (first|refine a_e ?_ _|refine a_h ?_|refine a_d ?_ _));refine a_o ?_ b_B.out _;(with_reducible repeat (first|refine a_e ?_ _|refine a_h ?_|refine a_d ?_ _));refine a_o ?_ b_B.out _;(with_reducible repeat (first|refine a_e ?_ _|refine a_h ?_|refine a_d ?_ _));refine a_o ?_ b_B.out _;(with_reducible repeat (first|refine a_e ?_ _|refine a_h ?_|refine a_d ?_ _));refine a_o ?_ b_B.out _;(with_reducible repeat (first|refine a_e ?_ _|refine a_h ?_|refine a_d ?_ _));refine a_o ?_ b_B.out _;(with_reducible repeat (first|refine a_e ?_ _|refine a_h ?_|refine a_d ?_ _));refine a_o ?_ b_B.out _;(with_reducible repeat (first|refine a_e ?_ _|refine a_h ?_|refine a_d ?_ _));refine a_o ?_ b_B.out _;(with_reducible repeat (first|refine a_e ?_ _|refine a_h ?_|refine a_d ?_ _));exact a_H.out⟩,⟨by repeat (first|(with_reducible first|exact HB.out|apply a_j|apply a_f|apply a_k|refine a_i ?_ d_i.out|refine a_i ?_ d_Y.out|refine a_i ?_ j_R.out)|exact HB.out)⟩⟩
end Go.Proofs.YtgglkfilkagblaaDoor.Q
end
