/- Part 8 of 14 of what the row of AuditAdds stands on: contracts over the given program's functions, the plain law, the row; no condition beyond those that each theorem states. -/
import Derived.Test.YtgglkfilkagblaaXAuditAdds6
section
namespace Go.Proofs.Ytgglkfilkagblaa.Q
open Go.RowKit Go.Proofs.YtgglkfilkagblaaW.PrintWords Go.Proofs.YtgglkfilkagblaaW.PrintLast Go.Proofs.YtgglkfilkagblaaW.PrintMore
set_option linter.unusedVariables false
set_option linter.unusedSimpArgs false
mutual
def a_m.j0 : Nat → Bool → Int → List (S65) → Option (Bool)
 | 0,_,_,_ => none
 | k + 1,x15,x213000,x213001 => if x15 = true then (some false) else (a_m.l0 k 0 x213000 x213001)
def a_m.l0 : Nat → Int → Int → List (S65) → Option (Bool)
 | 0,_,_,_ => none
 | k + 1,x3,x213000,x213001 => if x3 < (x213001.length : Int) then (if 0 ≤ x3 then ((b_I.f ((a_c x213001 x3).f0) ((a_c x213001 x3).f1) ((a_c x213001 x3).f2) ((a_c x213001 x3).f3) ((a_c x213001 x3).f4) ((a_c x213001 x3).f5) ((a_c x213001 x3).f6) ((a_c x213001 x3).f7) ((a_c x213001 x3).f8) ((a_c x213001 x3).f9) ((a_c x213001 x3).f10)).bind fun t215 => (if t215 = true then (if x3 > 0 then (if 0 ≤ (wrap64 (x3 - 1)) then (if (wrap64 (x3 - 1)) < (x213001.length : Int) then (a_m.j2 k x3 (decide (((a_c x213001 (wrap64 (x3 - 1))).f0) ≥ ((a_c x213001 x3).f0))) x213000 x213001 ((a_c x213001 x3).f0) ((a_c x213001 x3).f1) ((a_c x213001 x3).f2) ((a_c x213001 x3).f3) ((a_c x213001 x3).f4) ((a_c x213001 x3).f5) ((a_c x213001 x3).f6) ((a_c x213001 x3).f7) ((a_c x213001 x3).f8) ((a_c x213001 x3).f9) ((a_c x213001 x3).f10)) else (none)) else (none)) else (a_m.j2 k x3 false x213000 x213001 ((a_c x213001 x3).f0) ((a_c x213001 x3).f1) ((a_c x213001 x3).f2) ((a_c x213001 x3).f3) ((a_c x213001 x3).f4) ((a_c x213001 x3).f5) ((a_c x213001 x3).f6) ((a_c x213001 x3).f7) ((a_c x213001 x3).f8) ((a_c x213001 x3).f9) ((a_c x213001 x3).f10))) else (a_m.j2 k x3 true x213000 x213001 ((a_c x213001 x3).f0) ((a_c x213001 x3).f1) ((a_c x213001 x3).f2) ((a_c x213001 x3).f3) ((a_c x213001 x3).f4) ((a_c x213001 x3).f5) ((a_c x213001 x3).f6) ((a_c x213001 x3).f7) ((a_c x213001 x3).f8) ((a_c x213001 x3).f9) ((a_c x213001 x3).f10)))) else (none)) else (some true)
def a_m.j2 : Nat → Int → Bool → Int → List (S65) → Int → Int → Int → Int → Int → Bool → Bool → Int → Int → Int → Int → Option (Bool)
 | 0,_,_,_,_,_,_,_,_,_,_,_,_,_,_,_ => none
 | k + 1,x3,x46,x213000,x213001,x215000,x215001,x215002,x215003,x215004,x215005,x215006,x215007,x215008,x215009,x215010 => if x46 = true then (some false) else (a_m.l1 k x3 0 0 x213000 x213001 x215000 x215001 x215002 x215003 x215004 x215005 x215006 x215007 x215008 x215009 x215010)
def a_m.l1 : Nat → Int → Int → Int → Int → List (S65) → Int → Int → Int → Int → Int → Bool → Bool → Int → Int → Int → Int → Option (Bool)
 | 0,_,_,_,_,_,_,_,_,_,_,_,_,_,_,_,_ => none
 | k + 1,x3,x5,x6,x213000,x213001,x215000,x215001,x215002,x215003,x215004,x215005,x215006,x215007,x215008,x215009,x215010 => if x6 < (x213001.length : Int) then (if 0 ≤ x6 then (if ((a_c x213001 x6).f1) = x215001 then (if ((a_c x213001 x6).f8) = x215008 then (if ((a_c x213001 x6).f9) = x215009 then (if ((a_c x213001 x6).f10) = x215010 then (a_m.l1 k x3 (wrap64 (x5 + 1)) (wrap64 (x6 + 1)) x213000 x213001 x215000 x215001 x215002 x215003 x215004 x215005 x215006 x215007 x215008 x215009 x215010) else (some false)) else (some false)) else (some false)) else (a_m.l1 k x3 x5 (wrap64 (x6 + 1)) x213000 x213001 x215000 x215001 x215002 x215003 x215004 x215005 x215006 x215007 x215008 x215009 x215010)) else (none)) else (if x5 = x215009 then (a_m.l0 k (wrap64 (x3 + 1)) x213000 x213001) else (some false))
end
def a_m.f (k : Nat) (a0_0 : Int) (l0_1 : List (S65)) : Option (Bool):=if a0_0 < 0 then (a_m.j0 k true a0_0 l0_1) else (a_m.j0 k (decide (a0_0 > 1125899906842624)) a0_0 l0_1)
theorem a_m.c_N : ∀ k,(∀ y0 y1 y2,LeO (a_m.j0 k y0 y1 y2) (a_m.j0 (k + 1) y0 y1 y2)) ∧ (∀ y0 y1 y2,LeO (a_m.l0 k y0 y1 y2) (a_m.l0 (k + 1) y0 y1 y2)) ∧ (∀ y0 y1 y2 y3 y4 y5 y6 y7 y8 y9 y10 y11 y12 y13 y14,LeO (a_m.j2 k y0 y1 y2 y3 y4 y5 y6 y7 y8 y9 y10 y11 y12 y13 y14) (a_m.j2 (k + 1) y0 y1 y2 y3 y4 y5 y6 y7 y8 y9 y10 y11 y12 y13 y14)) ∧ (∀ y0 y1 y2 y3 y4 y5 y6 y7 y8 y9 y10 y11 y12 y13 y14 y15,LeO (a_m.l1 k y0 y1 y2 y3 y4 y5 y6 y7 y8 y9 y10 y11 y12 y13 y14 y15) (a_m.l1 (k + 1) y0 y1 y2 y3 y4 y5 y6 y7 y8 y9 y10 y11 y12 y13 y14 y15))
 | 0 => ⟨fun _ _ _ r h => by simp [a_m.j0] at h,fun _ _ _ r h => by simp [a_m.l0] at h,fun _ _ _ _ _ _ _ _ _ _ _ _ _ _ _ r h => by simp [a_m.j2] at h,fun _ _ _ _ _ _ _ _ _ _ _ _ _ _ _ _ r h => by simp [a_m.l1] at h⟩
 | k + 1 => by
  obtain ⟨ih0,ih1,ih2,ih3⟩:=a_m.c_N k
  refine ⟨?_,?_,?_,?_⟩
  ·intro y0 y1 y2
   unfold a_m.j0
   repeat' first
   | (with_reducible exact ih0 _ _ _)
   | (with_reducible exact ih1 _ _ _)
   | (with_reducible exact ih2 _ _ _ _ _ _ _ _ _ _ _ _ _ _ _)
   | (with_reducible exact ih3 _ _ _ _ _ _ _ _ _ _ _ _ _ _ _ _)
   | (with_reducible exact LeO.refl _)
   | (with_reducible exact LeO.none _)
   | (with_reducible refine LeO.ite ?_ ?_)
   | (with_reducible refine LeO.bind ?_ (fun _ => ?_))
   | exact ih0 _ _ _
   | exact ih1 _ _ _
   | exact ih2 _ _ _ _ _ _ _ _ _ _ _ _ _ _ _
   | exact ih3 _ _ _ _ _ _ _ _ _ _ _ _ _ _ _ _
   | exact LeO.none _
   | refine LeO.ite ?_ ?_
   | refine LeO.bind ?_ (fun _ => ?_)
  ·intro y0 y1 y2
   unfold a_m.l0
   repeat' first
   | (with_reducible exact ih0 _ _ _)
   | (with_reducible exact ih1 _ _ _)
   | (with_reducible exact ih2 _ _ _ _ _ _ _ _ _ _ _ _ _ _ _)
   | (with_reducible exact ih3 _ _ _ _ _ _ _ _ _ _ _ _ _ _ _ _)
   | (with_reducible exact LeO.refl _)
   | (with_reducible exact LeO.none _)
   | (with_reducible refine LeO.ite ?_ ?_)
   | (with_reducible refine LeO.bind ?_ (fun _ => ?_))
   | exact ih0 _ _ _
   | exact ih1 _ _ _
   | exact ih2 _ _ _ _ _ _ _ _ _ _ _ _ _ _ _
   | exact ih3 _ _ _ _ _ _ _ _ _ _ _ _ _ _ _ _
   | exact LeO.none _
   | refine LeO.ite ?_ ?_
   | refine LeO.bind ?_ (fun _ => ?_)
  ·intro y0 y1 y2 y3 y4 y5 y6 y7 y8 y9 y10 y11 y12 y13 y14
   unfold a_m.j2
   repeat' first
   | (with_reducible exact ih0 _ _ _)
   | (with_reducible exact ih1 _ _ _)
   | (with_reducible exact ih2 _ _ _ _ _ _ _ _ _ _ _ _ _ _ _)
   | (with_reducible exact ih3 _ _ _ _ _ _ _ _ _ _ _ _ _ _ _ _)
   | (with_reducible exact LeO.refl _)
   | (with_reducible exact LeO.none _)
   | (with_reducible refine LeO.ite ?_ ?_)
   | (with_reducible refine LeO.bind ?_ (fun _ => ?_))
   | exact ih0 _ _ _
   | exact ih1 _ _ _
   | exact ih2 _ _ _ _ _ _ _ _ _ _ _ _ _ _ _
   | exact ih3 _ _ _ _ _ _ _ _ _ _ _ _ _ _ _ _
   | exact LeO.none _
   | refine LeO.ite ?_ ?_
   | refine LeO.bind ?_ (fun _ => ?_)
  ·intro y0 y1 y2 y3 y4 y5 y6 y7 y8 y9 y10 y11 y12 y13 y14 y15
   unfold a_m.l1
   repeat' first
   | (with_reducible exact ih0 _ _ _)
   | (with_reducible exact ih1 _ _ _)
   | (with_reducible exact ih2 _ _ _ _ _ _ _ _ _ _ _ _ _ _ _)
   | (with_reducible exact ih3 _ _ _ _ _ _ _ _ _ _ _ _ _ _ _ _)
   | (with_reducible exact LeO.refl _)
   | (with_reducible exact LeO.none _)
   | (with_reducible refine LeO.ite ?_ ?_)
   | (with_reducible refine LeO.bind ?_ (fun _ => ?_))
   | exact ih0 _ _ _
   | exact ih1 _ _ _
   | exact ih2 _ _ _ _ _ _ _ _ _ _ _ _ _ _ _
   | exact ih3 _ _ _ _ _ _ _ _ _ _ _ _ _ _ _ _
   | exact LeO.none _
   | refine LeO.ite ?_ ?_
   | refine LeO.bind ?_ (fun _ => ?_)
theorem a_m.mono : ∀ a0 a1 k,LeO (a_m.f k a0 a1) (a_m.f (k + 1) a0 a1):=by
 intro a0 a1 k
 obtain ⟨ih0,ih1,ih2,ih3⟩:=a_m.c_N k
 unfold a_m.f
 repeat' first
  | (with_reducible exact ih0 _ _ _)
  | (with_reducible exact ih1 _ _ _)
  | (with_reducible exact ih2 _ _ _ _ _ _ _ _ _ _ _ _ _ _ _)
  | (with_reducible exact ih3 _ _ _ _ _ _ _ _ _ _ _ _ _ _ _ _)
  | (with_reducible exact LeO.refl _)
  | (with_reducible exact LeO.none _)
  | (with_reducible refine LeO.ite ?_ ?_)
  | (with_reducible refine LeO.bind ?_ (fun _ => ?_))
  | exact ih0 _ _ _
  | exact ih1 _ _ _
  | exact ih2 _ _ _ _ _ _ _ _ _ _ _ _ _ _ _
  | exact ih3 _ _ _ _ _ _ _ _ _ _ _ _ _ _ _ _
  | exact LeO.none _
  | refine LeO.ite ?_ ?_
  | refine LeO.bind ?_ (fun _ => ?_)
def a_m.T7 : Bool × List (List Nat × List Nat):=(true,[([],[]),([0],[0]),([1],[1]),([2,1],[2]),([3],[3]),([4,3],[3,4]),([5,3,3],[3,5]),([6],[6]),([7,6],[6,7]),([6],[6]),([9,6],[6,9]),([8,10,6],[6,8,10]),([11,6],[6,11]),([12,6],[6,12]),([6],[6]),([14,6],[6,14]),([13,15,6],[6,13,15]),([6,16,3],[3,6,16]),([3,17],[3,17])])
def a_m.B7 : List Nat:=[0,1,3,7,15,31,63,127,255,127,639,2047,4095,8191,127,16511,65535,131071,262143]
theorem a_m.tab7 : rtab .any (opsOf Try.f26 7) = a_m.T7:=by kernel_rfl
theorem a_m.n_V : f_e a_m.T7.2 a_m.B7 = true:=by kernel_rfl
set_option maxHeartbeats 8000000 in
set_option maxRecDepth 100000 in
theorem a_m.calls (k : Nat) (a0_0 : Int) (A0_1 : Option Addr) (c0_1 : Nat) (l0_1 : List (S65)) (r : Bool) (w : World) (hr0_1 : Kd.C k65 w A0_1 l0_1.length l0_1) (hc0_1 : l0_1.length ≤ c0_1) (h : a_m.f k a0_0 l0_1 = some r) :
 Calls Try.prog 26 #[.agg #[.int .i64 a0_0,.slice A0_1 l0_1.length c0_1]] w fun e w' => e = .returned (.bool r) ∧ Below w.heap.size w w':=by
 have hu27:=Try.underlying27
 have hu65:=Try.underlying65
 have e_o:=a_e.mk hr0_1
 have g_I:=a_e.mk hc0_1
 clear hr0_1 hc0_1
 have HB:=a_e.mk (Below.refl w.heap.size w)
 have H : (if a0_0 < 0 then (a_m.j0 k true a0_0 l0_1) else (a_m.j0 k (decide (a0_0 > 1125899906842624)) a0_0 l0_1)) = some r:=h
 clear h
 have HC2:=a_e.mk H
 clear H
 go_enter Try.func26,Try.ntmps26
 go_upto_region 1 with (first|((with_reducible refine a_U (N:=1) rfl ?_);refine a_H ?hg (N:=1) ?hd (cs:=#[.int .i64 a0_0,.slice A0_1 l0_1.length c0_1]) (t:=27) ?hr ?_;(case hd => rfl);(case hg => rfl);(case hr => first|(go_simp;done)|(go_simp;rfl));intro d_F hg w3 hbox hb;have b_s:=a_e.mk (hbox);have O_q:=a_e.mk ((by rw [hg];exact (a_p (lup_ HB.out)) : w.heap.size ≤ d_F));have d_Y:=a_e.mk ((by rw [hg];exact (a_p (lup_ HB.out)) : w.heap.size ≤ d_F));replace HB:=a_e.mk (a_t (lup_ HB.out) hb);clear hb hbox hg))
 (try simp only [Act.put,sa_,sb_,sc_])
 go_cut [15] (fun v15 wc => ∃ (kq : Nat) (x15_1 : Bool),v15 = .bool x15_1 ∧ a_e (a_m.j0 kq x15_1 a0_0 l0_1 = some r) ∧ a_e (kq ≤ k) ∧ a_e (wc.heap[d_F]? = some (.cells #[.int .i64 a0_0,(.slice A0_1 l0_1.length c0_1)] 27 (0,0))) ∧ a_e (Below w.heap.size w wc))
 case first =>
  have H:=HC2.out
  clear HC2
  by_cases c4 : a0_0 < 0
  ·rw [if_pos c4] at H
   have c4b0 : decide (a0_0 < 0) = true:=decide_eq_true c4
   clear c4
   (first|rw [c4b0]|(simp only [a_r,a_s];rw [c4b0])|skip)
   have H':=a_e.mk H
   clear H
   have f_Z : w3.cell? ⟨d_F,0,none⟩ = some (.int .i64 a0_0):=(a_a b_s.out 0).trans rfl
   have f_0 : w3.cell? ⟨d_F,1,none⟩ = some (.slice A0_1 l0_1.length c0_1):=(a_a b_s.out 1).trans rfl
   have f_1:=a_b b_s.out 0
   have f_2:=a_b b_s.out 1
   go_wp2
   go_meet
   case rel => exact ⟨_,(true),(by first|rfl|(simp;done)|(simp [*];done)),H',⟨by first|omega|exact Nat.le_refl _⟩,⟨by (with_reducible repeat (first|refine a_j ?_ _|refine a_k ?_|refine a_i ?_ _));exact b_s.out⟩,⟨by repeat (first|(with_reducible first|exact HB.out|apply a_g|apply a_f|apply a_h|refine a_d ?_ d_Y.out)|exact HB.out)⟩⟩
  rw [if_neg c4] at H
  have c4b0 : decide (a0_0 < 0) = false:=decide_eq_false c4
  clear c4
  (first|rw [c4b0]|(simp only [a_r,a_s];rw [c4b0])|skip)
  have H':=a_e.mk H
  clear H
  have n_R : w3.cell? ⟨d_F,0,none⟩ = some (.int .i64 a0_0):=(a_a b_s.out 0).trans rfl
  have n_S : w3.cell? ⟨d_F,1,none⟩ = some (.slice A0_1 l0_1.length c0_1):=(a_a b_s.out 1).trans rfl
  have n_T:=a_b b_s.out 0
  have n_U:=a_b b_s.out 1
  go_wp2
  go_meet
  case rel => exact ⟨_,(decide (a0_0 > 1125899906842624)),(by first|rfl|(simp;done)|(simp [*];done)),H',⟨by first|omega|exact Nat.le_refl _⟩,⟨by (with_reducible repeat (first|refine a_j ?_ _|refine a_k ?_|refine a_i ?_ _));exact b_s.out⟩,⟨by repeat (first|(with_reducible first|exact HB.out|apply a_g|apply a_f|apply a_h|refine a_d ?_ d_Y.out)|exact HB.out)⟩⟩
 case rest =>
  clear HC2
  try clear c2
  try clear p2
  try clear c4
  try clear c4b0
  try clear f_Z
  try clear f_0
  try clear n_R
  try clear n_S
  try clear f_1
  try clear f_2
  try clear n_T
  try clear n_U
  obtain ⟨kq,x15_1,rfl,HA,HJ1,b_s,HB⟩:=hcut
  cases kq with
  | zero => exact absurd HA.out (by simp [a_m.j0])
  | succ kj1 =>
   have H:=HA.out
   clear HA
   simp only [a_m.j0] at H
   by_cases c7 : x15_1 = true
   ·subst c7
    have H1 : (some false) = some r:=by rw [if_pos rfl] at H;exact H
    clear H
    have H:=H1
    clear H1
    obtain rfl:=Option.some.inj H
    go_wp2
    go_ret
    exact ⟨by first|rfl|(simp [a_w,a_x] <;> rfl)|(simp [*, a_w,a_x] <;> rfl),by repeat (first|(with_reducible first|exact HB.out|apply a_g|apply a_f|apply a_h|refine a_d ?_ d_Y.out)|exact HB.out)⟩
   replace c7:=Bool.eq_false_iff.mpr c7
   subst c7
   have H1 : (a_m.l0 kj1 0 a0_0 l0_1) = some r:=by rw [if_neg (show ¬ (false = true) by decide)] at H;exact H
   clear H
   have H:=H1
   clear H1
   have H':=a_e.mk H
   clear H
   go_wp2
   go_loopg [3] kj1 (fun kq v3 w' => ∃ (x3_2 : Int),v3 = .int .i64 x3_2 ∧ a_e (a_m.l0 kq x3_2 a0_0 l0_1 = some r) ∧ a_e (kq ≤ kj1) ∧ a_e (w'.heap[d_F]? = some (.cells #[.int .i64 a0_0,(.slice A0_1 l0_1.length c0_1)] 27 (0,0))) ∧ a_e (Below w.heap.size w w'))
   case atStart => exact ⟨(0),(by first|rfl|(simp;done)|(simp [*];done)),H',⟨Nat.le_refl _⟩,⟨by (with_reducible repeat (first|refine a_j ?_ _|refine a_k ?_|refine a_i ?_ _));exact b_s.out⟩,⟨by repeat (first|(with_reducible first|exact HB.out|apply a_g|apply a_f|apply a_h|refine a_d ?_ d_Y.out)|exact HB.out)⟩⟩
   case round =>
    clear H'
    try clear c2
    try clear p2
    try clear c4
    try clear c4b0
    try clear c7
    try clear f_Z
    try clear f_0
    try clear n_R
    try clear n_S
    try clear f_1
    try clear f_2
    try clear n_T
    try clear n_U
    try clear p2
    obtain ⟨x3_2,rfl,HA,HK2,b_s,HB⟩:=hrel
    cases gk with
    | zero => exact absurd HA.out (by simp [a_m.l0])
    | succ k2 =>
     have H:=HA.out
     clear HA
     simp only [a_m.l0] at H
     by_cases c8 : x3_2 < (l0_1.length : Int)
     rotate_left
     ·rw [if_neg c8] at H
      have c8b0 : decide (x3_2 < (l0_1.length : Int)) = false:=decide_eq_false c8
      clear c8
      obtain rfl:=Option.some.inj H
      have m_G : wr.cell? ⟨d_F,0,none⟩ = some (.int .i64 a0_0):=(a_a b_s.out 0).trans rfl
      have m_H : wr.cell? ⟨d_F,1,none⟩ = some (.slice A0_1 l0_1.length c0_1):=(a_a b_s.out 1).trans rfl
      have m_I:=a_b b_s.out 0
      have m_J:=a_b b_s.out 1
      go_wp2
      go_ret
      exact ⟨by first|rfl|(simp [a_w,a_x] <;> rfl)|(simp [*, a_w,a_x] <;> rfl),by repeat (first|(with_reducible first|exact HB.out|apply a_g|apply a_f|apply a_h|refine a_d ?_ d_Y.out)|exact HB.out)⟩
     rw [if_pos c8] at H
     have c8b0 : decide (x3_2 < (l0_1.length : Int)) = true:=decide_eq_true c8
     clear c8
     by_cases c9 : 0 ≤ x3_2
     rotate_left
     ·rw [if_neg c9] at H
      exact absurd H (by simp)
     rw [if_pos c9] at H
     have c9b0 : decide (0 ≤ x3_2) = true:=decide_eq_true c9
     clear c9
     have HC10:=a_e.mk H
     clear H
     have g_h : wr.cell? ⟨d_F,0,none⟩ = some (.int .i64 a0_0):=(a_a b_s.out 0).trans rfl
     have g_i : wr.cell? ⟨d_F,1,none⟩ = some (.slice A0_1 l0_1.length c0_1):=(a_a b_s.out 1).trans rfl
     have g_j:=a_b b_s.out 0
     have f_D:=a_b b_s.out 1
     have p213 : 0 ≤ (x3_2 : Int):=of_decide_eq_true (by first|(with_reducible assumption)|assumption)
     have q213 : x3_2 < (l0_1.length : Int):=of_decide_eq_true (by first|(with_reducible assumption)|assumption)
     obtain ⟨ad213,e213,j_A,j_B,j_C,j_D,j_E,j_F,j_G,j_H,j_I,j_J,h_Z⟩:=e_h e_o.out x3_2 p213 q213
     cases e213
     replace j_A:=(HB.out.cell (World.block_lt_of_cell? w _ j_A)).trans j_A
     replace j_B:=(HB.out.cell (World.block_lt_of_cell? w _ j_B)).trans j_B
     replace j_C:=(HB.out.cell (World.block_lt_of_cell? w _ j_C)).trans j_C
     replace j_D:=(HB.out.cell (World.block_lt_of_cell? w _ j_D)).trans j_D
     replace j_E:=(HB.out.cell (World.block_lt_of_cell? w _ j_E)).trans j_E
     replace j_F:=(HB.out.cell (World.block_lt_of_cell? w _ j_F)).trans j_F
     replace j_G:=(HB.out.cell (World.block_lt_of_cell? w _ j_G)).trans j_G
     replace j_H:=(HB.out.cell (World.block_lt_of_cell? w _ j_H)).trans j_H
     replace j_I:=(HB.out.cell (World.block_lt_of_cell? w _ j_I)).trans j_I
     replace j_J:=(HB.out.cell (World.block_lt_of_cell? w _ j_J)).trans j_J
     replace h_Z:=(HB.out.cell (World.block_lt_of_cell? w _ h_Z)).trans h_Z
     replace p213:=eq_true p213
     replace q213:=eq_true q213
     go_upto_region 7 with (first|((with_reducible refine a_U (N:=4) rfl ?_);refine a_H ?hg (N:=4) ?hd (cs:=#[.int .i64 0,.int .i64 0,.int .i64 0,.int .i64 0,.int .i64 0,.bool false,.bool false,.int .u32 0,.int .i64 0,.int .i64 0,.int .i64 0]) (t:=65) ?hr ?_;(case hd => rfl);(case hg => rfl);(case hr => first|(go_simp;done)|(go_simp;rfl));intro a_T hg w12 hbox hb;have a_M:=a_e.mk (hbox);have O_r:=a_e.mk ((by rw [hg];exact (a_p (by repeat (first|(with_reducible first|exact HB.out|apply a_g|apply a_f|apply a_h|refine a_d ?_ d_Y.out)|exact HB.out))) : w.heap.size ≤ a_T));have e_C:=a_e.mk ((by rw [hg];exact (a_p (by repeat (first|(with_reducible first|exact HB.out|apply a_g|apply a_f|apply a_h|refine a_d ?_ d_Y.out)|exact HB.out))) : w.heap.size ≤ a_T));have b_j:=a_e.mk ((by rw [hg];exact Nat.ne_of_lt (a_N (bup_ b_s.out)) : d_F ≠ a_T));have f_n:=a_e.mk ((by rw [hg];exact Nat.ne_of_gt (a_N (bup_ b_s.out)) : a_T ≠ d_F));replace b_s:=a_e.mk (a_l (bup_ b_s.out) hb);replace HB:=a_e.mk (a_t (by repeat (first|(with_reducible first|exact HB.out|apply a_g|apply a_f|apply a_h|refine a_d ?_ d_Y.out)|exact HB.out)) hb);clear hb hbox hg;have D_Q:=f_n.out;have D_R:=b_j.out;have i_5 : w12.cell? ⟨a_T,0,none⟩ = some (.int .i64 0):=(a_a a_M.out 0).trans rfl;have i_6 : w12.cell? ⟨a_T,1,none⟩ = some (.int .i64 0):=(a_a a_M.out 1).trans rfl;have i_7 : w12.cell? ⟨a_T,2,none⟩ = some (.int .i64 0):=(a_a a_M.out 2).trans rfl;have i_8 : w12.cell? ⟨a_T,3,none⟩ = some (.int .i64 0):=(a_a a_M.out 3).trans rfl;have i_9 : w12.cell? ⟨a_T,4,none⟩ = some (.int .i64 0):=(a_a a_M.out 4).trans rfl;have j_a : w12.cell? ⟨a_T,5,none⟩ = some (.bool false):=(a_a a_M.out 5).trans rfl;have j_b : w12.cell? ⟨a_T,6,none⟩ = some (.bool false):=(a_a a_M.out 6).trans rfl;have j_c : w12.cell? ⟨a_T,7,none⟩ = some (.int .u32 0):=(a_a a_M.out 7).trans rfl;have j_d : w12.cell? ⟨a_T,8,none⟩ = some (.int .i64 0):=(a_a a_M.out 8).trans rfl;have j_e : w12.cell? ⟨a_T,9,none⟩ = some (.int .i64 0):=(a_a a_M.out 9).trans rfl;have h_P : w12.cell? ⟨a_T,10,none⟩ = some (.int .i64 0):=(a_a a_M.out 10).trans rfl;have j_f:=a_b a_M.out 0;have j_g:=a_b a_M.out 1;have j_h:=a_b a_M.out 2;have j_i:=a_b a_M.out 3;have j_j:=a_b a_M.out 4;have j_k:=a_b a_M.out 5;have j_l:=a_b a_M.out 6;have j_m:=a_b a_M.out 7;have j_n:=a_b a_M.out 8;have j_o:=a_b a_M.out 9;have h_Q:=a_b a_M.out 10))
     (try simp only [Act.put,sa_,sb_,sc_])
     go_cut [46] (fun v46 wc => ∃ (kq : Nat) (x46_9 : Bool),v46 = .bool x46_9 ∧ a_e (a_m.j2 kq x3_2 x46_9 a0_0 l0_1 ((a_c l0_1 x3_2).f0) ((a_c l0_1 x3_2).f1) ((a_c l0_1 x3_2).f2) ((a_c l0_1 x3_2).f3) ((a_c l0_1 x3_2).f4) ((a_c l0_1 x3_2).f5) ((a_c l0_1 x3_2).f6) ((a_c l0_1 x3_2).f7) ((a_c l0_1 x3_2).f8) ((a_c l0_1 x3_2).f9) ((a_c l0_1 x3_2).f10) = some r) ∧ a_e (kq ≤ k2) ∧ a_e (wc.heap[d_F]? = some (.cells #[.int .i64 a0_0,(.slice (some ad213) l0_1.length c0_1)] 27 (0,0))) ∧ a_e (wc.heap[a_T]? = some (.cells #[.int .i64 ((a_c l0_1 x3_2).f0),.int .i64 ((a_c l0_1 x3_2).f1),.int .i64 ((a_c l0_1 x3_2).f2),.int .i64 ((a_c l0_1 x3_2).f3),.int .i64 ((a_c l0_1 x3_2).f4),.bool ((a_c l0_1 x3_2).f5),.bool ((a_c l0_1 x3_2).f6),.int .u32 ((a_c l0_1 x3_2).f7),.int .i64 ((a_c l0_1 x3_2).f8),.int .i64 ((a_c l0_1 x3_2).f9),.int .i64 ((a_c l0_1 x3_2).f10)] 65 (0,0))) ∧ a_e (Below w.heap.size w wc))
     case first =>
      have H:=HC10.out
      clear HC10
      replace H:=Option.bind_eq_some_iff.mp H
      obtain ⟨t215,A150,H⟩:=H
      replace H : (if t215 = true then (if x3_2 > 0 then (if 0 ≤ (wrap64 (x3_2 - 1)) then (if (wrap64 (x3_2 - 1)) < (l0_1.length : Int) then (a_m.j2 k2 x3_2 (decide (((a_c l0_1 (wrap64 (x3_2 - 1))).f0) ≥ ((a_c l0_1 x3_2).f0))) a0_0 l0_1 ((a_c l0_1 x3_2).f0) ((a_c l0_1 x3_2).f1) ((a_c l0_1 x3_2).f2) ((a_c l0_1 x3_2).f3) ((a_c l0_1 x3_2).f4) ((a_c l0_1 x3_2).f5) ((a_c l0_1 x3_2).f6) ((a_c l0_1 x3_2).f7) ((a_c l0_1 x3_2).f8) ((a_c l0_1 x3_2).f9) ((a_c l0_1 x3_2).f10)) else (none)) else (none)) else (a_m.j2 k2 x3_2 false a0_0 l0_1 ((a_c l0_1 x3_2).f0) ((a_c l0_1 x3_2).f1) ((a_c l0_1 x3_2).f2) ((a_c l0_1 x3_2).f3) ((a_c l0_1 x3_2).f4) ((a_c l0_1 x3_2).f5) ((a_c l0_1 x3_2).f6) ((a_c l0_1 x3_2).f7) ((a_c l0_1 x3_2).f8) ((a_c l0_1 x3_2).f9) ((a_c l0_1 x3_2).f10))) else (a_m.j2 k2 x3_2 true a0_0 l0_1 ((a_c l0_1 x3_2).f0) ((a_c l0_1 x3_2).f1) ((a_c l0_1 x3_2).f2) ((a_c l0_1 x3_2).f3) ((a_c l0_1 x3_2).f4) ((a_c l0_1 x3_2).f5) ((a_c l0_1 x3_2).f6) ((a_c l0_1 x3_2).f7) ((a_c l0_1 x3_2).f8) ((a_c l0_1 x3_2).f9) ((a_c l0_1 x3_2).f10))) = some r:=H
      have A15:=a_e.mk A150
      clear A150
      by_cases c16 : t215 = true
      rotate_left
      ·replace c16:=Bool.eq_false_iff.mpr c16
       subst c16
       have H1 : (a_m.j2 k2 x3_2 true a0_0 l0_1 ((a_c l0_1 x3_2).f0) ((a_c l0_1 x3_2).f1) ((a_c l0_1 x3_2).f2) ((a_c l0_1 x3_2).f3) ((a_c l0_1 x3_2).f4) ((a_c l0_1 x3_2).f5) ((a_c l0_1 x3_2).f6) ((a_c l0_1 x3_2).f7) ((a_c l0_1 x3_2).f8) ((a_c l0_1 x3_2).f9) ((a_c l0_1 x3_2).f10)) = some r:=by rw [if_neg (show ¬ (false = true) by decide)] at H;exact H
       clear H
       have H:=H1
       clear H1
       have H':=a_e.mk H
       clear H
       try go_wp2
       have n0_ : a_e ((((((((((((w12.setCell ⟨a_T,0,none⟩ (.int .i64 ((a_c l0_1 x3_2).f0))).setCell ⟨a_T,1,none⟩ (.int .i64 ((a_c l0_1 x3_2).f1))).setCell ⟨a_T,2,none⟩ (.int .i64 ((a_c l0_1 x3_2).f2))).setCell ⟨a_T,3,none⟩ (.int .i64 ((a_c l0_1 x3_2).f3))).setCell ⟨a_T,4,none⟩ (.int .i64 ((a_c l0_1 x3_2).f4))).setCell ⟨a_T,5,none⟩ (.bool ((a_c l0_1 x3_2).f5))).setCell ⟨a_T,6,none⟩ (.bool ((a_c l0_1 x3_2).f6))).setCell ⟨a_T,7,none⟩ (.int .u32 ((a_c l0_1 x3_2).f7))).setCell ⟨a_T,8,none⟩ (.int .i64 ((a_c l0_1 x3_2).f8))).setCell ⟨a_T,9,none⟩ (.int .i64 ((a_c l0_1 x3_2).f9))).setCell ⟨a_T,10,none⟩ (.int .i64 ((a_c l0_1 x3_2).f10))).heap[d_F]? = some (.cells #[.int .i64 a0_0,.slice (some ad213) l0_1.length c0_1] 27 (0,0))):=⟨by (with_reducible repeat (first|refine a_j ?_ _|refine a_k ?_|refine a_i ?_ _));refine a_B ?_ b_j.out _;(with_reducible repeat (first|refine a_j ?_ _|refine a_k ?_|refine a_i ?_ _));refine a_B ?_ b_j.out _;(with_reducible repeat (first|refine a_j ?_ _|refine a_k ?_|refine a_i ?_ _));refine a_B ?_ b_j.out _;(with_reducible repeat (first|refine a_j ?_ _|refine a_k ?_|refine a_i ?_ _));refine a_B ?_ b_j.out _;(with_reducible repeat (first|refine a_j ?_ _|refine a_k ?_|refine a_i ?_ _));refine a_B ?_ b_j.out _;(with_reducible repeat (first|refine a_j ?_ _|refine a_k ?_|refine a_i ?_ _));refine a_B ?_ b_j.out _;(with_reducible repeat (first|refine a_j ?_ _|refine a_k ?_|refine a_i ?_ _));refine a_B ?_ b_j.out _;(with_reducible repeat (first|refine a_j ?_ _|refine a_k ?_|refine a_i ?_ _));refine a_B ?_ b_j.out _;(with_reducible repeat (first|refine a_j ?_ _|refine a_k ?_|refine a_i ?_ _));refine a_B ?_ b_j.out _;(with_reducible repeat (first|refine a_j ?_ _|refine a_k ?_|refine a_i ?_ _));refine a_B ?_ b_j.out _;(with_reducible repeat (first|refine a_j ?_ _|refine a_k ?_|refine a_i ?_ _));refine a_B ?_ b_j.out _;(with_reducible repeat (first|refine a_j ?_ _|refine a_k ?_|refine a_i ?_ _));exact b_s.out⟩
       have n1_ : a_e ((((((((((((w12.setCell ⟨a_T,0,none⟩ (.int .i64 ((a_c l0_1 x3_2).f0))).setCell ⟨a_T,1,none⟩ (.int .i64 ((a_c l0_1 x3_2).f1))).setCell ⟨a_T,2,none⟩ (.int .i64 ((a_c l0_1 x3_2).f2))).setCell ⟨a_T,3,none⟩ (.int .i64 ((a_c l0_1 x3_2).f3))).setCell ⟨a_T,4,none⟩ (.int .i64 ((a_c l0_1 x3_2).f4))).setCell ⟨a_T,5,none⟩ (.bool ((a_c l0_1 x3_2).f5))).setCell ⟨a_T,6,none⟩ (.bool ((a_c l0_1 x3_2).f6))).setCell ⟨a_T,7,none⟩ (.int .u32 ((a_c l0_1 x3_2).f7))).setCell ⟨a_T,8,none⟩ (.int .i64 ((a_c l0_1 x3_2).f8))).setCell ⟨a_T,9,none⟩ (.int .i64 ((a_c l0_1 x3_2).f9))).setCell ⟨a_T,10,none⟩ (.int .i64 ((a_c l0_1 x3_2).f10))).heap[a_T]? = some (.cells #[.int .i64 ((a_c l0_1 x3_2).f0),.int .i64 ((a_c l0_1 x3_2).f1),.int .i64 ((a_c l0_1 x3_2).f2),.int .i64 ((a_c l0_1 x3_2).f3),.int .i64 ((a_c l0_1 x3_2).f4),.bool ((a_c l0_1 x3_2).f5),.bool ((a_c l0_1 x3_2).f6),.int .u32 ((a_c l0_1 x3_2).f7),.int .i64 ((a_c l0_1 x3_2).f8),.int .i64 ((a_c l0_1 x3_2).f9),.int .i64 ((a_c l0_1 x3_2).f10)] 65 (0,0))):=⟨by (with_reducible repeat (first|refine a_j ?_ _|refine a_k ?_|refine a_i ?_ _));refine a_J (cs:=#[.int .i64 ((a_c l0_1 x3_2).f0),.int .i64 ((a_c l0_1 x3_2).f1),.int .i64 ((a_c l0_1 x3_2).f2),.int .i64 ((a_c l0_1 x3_2).f3),.int .i64 ((a_c l0_1 x3_2).f4),.bool ((a_c l0_1 x3_2).f5),.bool ((a_c l0_1 x3_2).f6),.int .u32 ((a_c l0_1 x3_2).f7),.int .i64 ((a_c l0_1 x3_2).f8),.int .i64 ((a_c l0_1 x3_2).f9),.int .i64 0]) ?_ 10 _ rfl;(with_reducible repeat (first|refine a_j ?_ _|refine a_k ?_|refine a_i ?_ _));refine a_J (cs:=#[.int .i64 ((a_c l0_1 x3_2).f0),.int .i64 ((a_c l0_1 x3_2).f1),.int .i64 ((a_c l0_1 x3_2).f2),.int .i64 ((a_c l0_1 x3_2).f3),.int .i64 ((a_c l0_1 x3_2).f4),.bool ((a_c l0_1 x3_2).f5),.bool ((a_c l0_1 x3_2).f6),.int .u32 ((a_c l0_1 x3_2).f7),.int .i64 ((a_c l0_1 x3_2).f8),.int .i64 0,.int .i64 0]) ?_ 9 _ rfl;(with_reducible repeat (first|refine a_j ?_ _|refine a_k ?_|refine a_i ?_ _));refine a_J (cs:=#[.int .i64 ((a_c l0_1 x3_2).f0),.int .i64 ((a_c l0_1 x3_2).f1),.int .i64 ((a_c l0_1 x3_2).f2),.int .i64 ((a_c l0_1 x3_2).f3),.int .i64 ((a_c l0_1 x3_2).f4),.bool ((a_c l0_1 x3_2).f5),.bool ((a_c l0_1 x3_2).f6),.int .u32 ((a_c l0_1 x3_2).f7),.int .i64 0,.int .i64 0,.int .i64 0]) ?_ 8 _ rfl;(with_reducible repeat (first|refine a_j ?_ _|refine a_k ?_|refine a_i ?_ _));refine a_J (cs:=#[.int .i64 ((a_c l0_1 x3_2).f0),.int .i64 ((a_c l0_1 x3_2).f1),.int .i64 ((a_c l0_1 x3_2).f2),.int .i64 ((a_c l0_1 x3_2).f3),.int .i64 ((a_c l0_1 x3_2).f4),.bool ((a_c l0_1 x3_2).f5),.bool ((a_c l0_1 x3_2).f6),.int .u32 0,.int .i64 0,.int .i64 0,.int .i64 0]) ?_ 7 _ rfl;(with_reducible repeat (first|refine a_j ?_ _|refine a_k ?_|refine a_i ?_ _));refine a_J (cs:=#[.int .i64 ((a_c l0_1 x3_2).f0),.int .i64 ((a_c l0_1 x3_2).f1),.int .i64 ((a_c l0_1 x3_2).f2),.int .i64 ((a_c l0_1 x3_2).f3),.int .i64 ((a_c l0_1 x3_2).f4),.bool ((a_c l0_1 x3_2).f5),.bool false,.int .u32 0,.int .i64 0,.int .i64 0,.int .i64 0]) ?_ 6 _ rfl;(with_reducible repeat (first|refine a_j ?_ _|refine a_k ?_|refine a_i ?_ _));refine a_J (cs:=#[.int .i64 ((a_c l0_1 x3_2).f0),.int .i64 ((a_c l0_1 x3_2).f1),.int .i64 ((a_c l0_1 x3_2).f2),.int .i64 ((a_c l0_1 x3_2).f3),.int .i64 ((a_c l0_1 x3_2).f4),.bool false,.bool false,.int .u32 0,.int .i64 0,.int .i64 0,.int .i64 0]) ?_ 5 _ rfl;(with_reducible repeat (first|refine a_j ?_ _|refine a_k ?_|refine a_i ?_ _));refine a_J (cs:=#[.int .i64 ((a_c l0_1 x3_2).f0),.int .i64 ((a_c l0_1 x3_2).f1),.int .i64 ((a_c l0_1 x3_2).f2),.int .i64 ((a_c l0_1 x3_2).f3),.int .i64 0,.bool false,.bool false,.int .u32 0,.int .i64 0,.int .i64 0,.int .i64 0]) ?_ 4 _ rfl;(with_reducible repeat (first|refine a_j ?_ _|refine a_k ?_|refine a_i ?_ _));refine a_J (cs:=#[.int .i64 ((a_c l0_1 x3_2).f0),.int .i64 ((a_c l0_1 x3_2).f1),.int .i64 ((a_c l0_1 x3_2).f2),.int .i64 0,.int .i64 0,.bool false,.bool false,.int .u32 0,.int .i64 0,.int .i64 0,.int .i64 0]) ?_ 3 _ rfl;(with_reducible repeat (first|refine a_j ?_ _|refine a_k ?_|refine a_i ?_ _));refine a_J (cs:=#[.int .i64 ((a_c l0_1 x3_2).f0),.int .i64 ((a_c l0_1 x3_2).f1),.int .i64 0,.int .i64 0,.int .i64 0,.bool false,.bool false,.int .u32 0,.int .i64 0,.int .i64 0,.int .i64 0]) ?_ 2 _ rfl;(with_reducible repeat (first|refine a_j ?_ _|refine a_k ?_|refine a_i ?_ _));refine a_J (cs:=#[.int .i64 ((a_c l0_1 x3_2).f0),.int .i64 0,.int .i64 0,.int .i64 0,.int .i64 0,.bool false,.bool false,.int .u32 0,.int .i64 0,.int .i64 0,.int .i64 0]) ?_ 1 _ rfl;(with_reducible repeat (first|refine a_j ?_ _|refine a_k ?_|refine a_i ?_ _));refine a_J (cs:=#[.int .i64 0,.int .i64 0,.int .i64 0,.int .i64 0,.int .i64 0,.bool false,.bool false,.int .u32 0,.int .i64 0,.int .i64 0,.int .i64 0]) ?_ 0 _ rfl;(with_reducible repeat (first|refine a_j ?_ _|refine a_k ?_|refine a_i ?_ _));exact a_M.out⟩
       have n2_ : a_e (Below w.heap.size w (((((((((((w12.setCell ⟨a_T,0,none⟩ (.int .i64 ((a_c l0_1 x3_2).f0))).setCell ⟨a_T,1,none⟩ (.int .i64 ((a_c l0_1 x3_2).f1))).setCell ⟨a_T,2,none⟩ (.int .i64 ((a_c l0_1 x3_2).f2))).setCell ⟨a_T,3,none⟩ (.int .i64 ((a_c l0_1 x3_2).f3))).setCell ⟨a_T,4,none⟩ (.int .i64 ((a_c l0_1 x3_2).f4))).setCell ⟨a_T,5,none⟩ (.bool ((a_c l0_1 x3_2).f5))).setCell ⟨a_T,6,none⟩ (.bool ((a_c l0_1 x3_2).f6))).setCell ⟨a_T,7,none⟩ (.int .u32 ((a_c l0_1 x3_2).f7))).setCell ⟨a_T,8,none⟩ (.int .i64 ((a_c l0_1 x3_2).f8))).setCell ⟨a_T,9,none⟩ (.int .i64 ((a_c l0_1 x3_2).f9))).setCell ⟨a_T,10,none⟩ (.int .i64 ((a_c l0_1 x3_2).f10)))):=⟨by repeat (first|(with_reducible first|exact HB.out|apply a_g|apply a_f|apply a_h|refine a_d ?_ d_Y.out|refine a_d ?_ e_C.out)|exact HB.out)⟩
       (try clear b_s)
       (try clear a_M)
       (try clear HB)
       generalize (((((((((((w12.setCell ⟨a_T,0,none⟩ (.int .i64 ((a_c l0_1 x3_2).f0))).setCell ⟨a_T,1,none⟩ (.int .i64 ((a_c l0_1 x3_2).f1))).setCell ⟨a_T,2,none⟩ (.int .i64 ((a_c l0_1 x3_2).f2))).setCell ⟨a_T,3,none⟩ (.int .i64 ((a_c l0_1 x3_2).f3))).setCell ⟨a_T,4,none⟩ (.int .i64 ((a_c l0_1 x3_2).f4))).setCell ⟨a_T,5,none⟩ (.bool ((a_c l0_1 x3_2).f5))).setCell ⟨a_T,6,none⟩ (.bool ((a_c l0_1 x3_2).f6))).setCell ⟨a_T,7,none⟩ (.int .u32 ((a_c l0_1 x3_2).f7))).setCell ⟨a_T,8,none⟩ (.int .i64 ((a_c l0_1 x3_2).f8))).setCell ⟨a_T,9,none⟩ (.int .i64 ((a_c l0_1 x3_2).f9))).setCell ⟨a_T,10,none⟩ (.int .i64 ((a_c l0_1 x3_2).f10))) = w27 at n0_ n1_ n2_ ⊢
       have b_s:=n0_
       have a_M:=n1_
       have HB:=n2_
       clear n0_ n1_ n2_
       replace b_s:=a_e.mk (a_k b_s.out)
       replace a_M:=a_e.mk (a_k a_M.out)
       replace HB:=a_e.mk (a_h HB.out)
       refine d_H (n:=19) (S:=fun w' => w'.cell? ⟨a_T,0,none⟩ = some (.int .i64 ((a_c l0_1 x3_2).f0)) ∧ w'.cell? ⟨a_T,1,none⟩ = some (.int .i64 ((a_c l0_1 x3_2).f1)) ∧ w'.cell? ⟨a_T,2,none⟩ = some (.int .i64 ((a_c l0_1 x3_2).f2)) ∧ w'.cell? ⟨a_T,3,none⟩ = some (.int .i64 ((a_c l0_1 x3_2).f3)) ∧ w'.cell? ⟨a_T,4,none⟩ = some (.int .i64 ((a_c l0_1 x3_2).f4)) ∧ w'.cell? ⟨a_T,5,none⟩ = some (.bool ((a_c l0_1 x3_2).f5)) ∧ w'.cell? ⟨a_T,6,none⟩ = some (.bool ((a_c l0_1 x3_2).f6)) ∧ w'.cell? ⟨a_T,7,none⟩ = some (.int .u32 ((a_c l0_1 x3_2).f7)) ∧ w'.cell? ⟨a_T,8,none⟩ = some (.int .i64 ((a_c l0_1 x3_2).f8)) ∧ w'.cell? ⟨a_T,9,none⟩ = some (.int .i64 ((a_c l0_1 x3_2).f9)) ∧ w'.cell? ⟨a_T,10,none⟩ = some (.int .i64 ((a_c l0_1 x3_2).f10))) (ds:=[]) Z3_ (by kernel_rfl) rfl rfl ⟨(a_a a_M.out 0).trans rfl,(a_a a_M.out 1).trans rfl,(a_a a_M.out 2).trans rfl,(a_a a_M.out 3).trans rfl,(a_a a_M.out 4).trans rfl,(a_a a_M.out 5).trans rfl,(a_a a_M.out 6).trans rfl,(a_a a_M.out 7).trans rfl,(a_a a_M.out 8).trans rfl,(a_a a_M.out 9).trans rfl,(a_a a_M.out 10).trans rfl⟩ (fun hHeld => ?_);refine b_Q a_m.tab7 a_m.n_V (fun HT_ HW_ => ?_)
       generalize w27.drew = w28 at b_s a_M HB hHeld ⊢
       refine b_m (i:=0) (N:=some 28) (v:=?_) (a':=?_) Z9_ rfl rfl (a_L HT_.out HW_.out (by kernel_rfl)) (fun _ _ _ h => h) (Or.inl ⟨by rfl,?_⟩) hHeld ?_ ?_
       rotate_left
       ·rintro w' ⟨s0,s1,s2,s3,s4,s5,s6,s7,s8,s9,s10⟩
        go_simp
        with_reducible rfl
       rotate_left
       ·simp only [Act.put,sa_,sb_,sc_,a_r,a_s]
        rfl
       refine one_ (i:=1) (N:=some 29) Z16_ rfl rfl (c_e HT_.out (by kernel_rfl)) (by decide) (fun K hK => ?_)
       refine e_I Try.func54 (by kernel_rfl) rfl #[.agg #[.int .i64 ((a_c l0_1 x3_2).f0),.int .i64 ((a_c l0_1 x3_2).f1),.int .i64 ((a_c l0_1 x3_2).f2),.int .i64 ((a_c l0_1 x3_2).f3),.int .i64 ((a_c l0_1 x3_2).f4),.bool ((a_c l0_1 x3_2).f5),.bool ((a_c l0_1 x3_2).f6),.int .u32 ((a_c l0_1 x3_2).f7),.int .i64 ((a_c l0_1 x3_2).f8),.int .i64 ((a_c l0_1 x3_2).f9),.int .i64 ((a_c l0_1 x3_2).f10)]] (by rfl) rfl rfl (by (try simp only [List.map_toArray,List.map_cons,List.map_nil]);first|done|rfl|(simp only [List.length_drop,List.length_take];rfl)) ?_
       with_reducible refine (b_I.calls ((a_c l0_1 x3_2).f0) ((a_c l0_1 x3_2).f1) ((a_c l0_1 x3_2).f2) ((a_c l0_1 x3_2).f3) ((a_c l0_1 x3_2).f4) ((a_c l0_1 x3_2).f5) ((a_c l0_1 x3_2).f6) ((a_c l0_1 x3_2).f7) ((a_c l0_1 x3_2).f8) ((a_c l0_1 x3_2).f9) ((a_c l0_1 x3_2).f10) false _ A15.out).mono ?_
       rintro e w29 ⟨rfl,hb⟩
       refine ⟨_,rfl,?_⟩
       replace b_s:=a_e.mk (a_l (bup_ b_s.out) hb)
       replace a_M:=a_e.mk (a_l (bup_ a_M.out) hb)
       replace HB:=a_e.mk (a_t (by repeat (first|(with_reducible first|exact HB.out|apply a_g|apply a_f|apply a_h|refine a_d ?_ d_Y.out|refine a_d ?_ e_C.out)|exact HB.out)) hb)
       (try clear hb)
       (try clear hb2)
       (try clear hk)
       (try clear hi)
       refine hK.out _ _ ⟨(a_a a_M.out 0).trans rfl,(a_a a_M.out 1).trans rfl,(a_a a_M.out 2).trans rfl,(a_a a_M.out 3).trans rfl,(a_a a_M.out 4).trans rfl,(a_a a_M.out 5).trans rfl,(a_a a_M.out 6).trans rfl,(a_a a_M.out 7).trans rfl,(a_a a_M.out 8).trans rfl,(a_a a_M.out 9).trans rfl,(a_a a_M.out 10).trans rfl⟩ (fun hHeld => ?_)
       clear hK K
       refine d_U (a':=?_) ?_ ?_
       rotate_left
       ·show Act.put _ (some 29) _ = _
        simp only [Act.put,sa_,sb_,sc_,a_r,a_s]
        rfl
       refine a_y (i:=2) (N:=some 30) (v:=?_) (a':=?_) Z22_ rfl rfl (a_n HT_.out (by kernel_rfl)) (fun _ _ _ h => h) (Or.inl ⟨by rfl,?_⟩) ?_ ?_
       rotate_left
       ·intro w'
        go_simp
        with_reducible rfl
       rotate_left
       ·simp only [Act.put,sa_,sb_,sc_,a_r,a_s]
        rfl
       refine a_y (i:=3) (N:=some 31) (v:=?_) (a':=?_) Z27_ rfl rfl (a_n HT_.out (by kernel_rfl)) (fun _ _ _ h => h) (Or.inl ⟨by rfl,?_⟩) ?_ ?_
       rotate_left
       ·intro w'
        go_simp
        with_reducible rfl
       rotate_left
       ·simp only [Act.put,sa_,sb_,sc_,a_r,a_s]
        rfl
       refine a_y (i:=4) (N:=some 32) (v:=undef) (a':=?_) Z31_ rfl rfl (a_n HT_.out (by kernel_rfl)) (fun _ _ _ h => h) (Or.inr ⟨by rfl,rfl⟩) ?_ ?_
       rotate_left
       ·simp only [Act.put,sa_,sb_,sc_,a_r,a_s]
        rfl
       refine a_y (i:=5) (N:=some 33) (v:=undef) (a':=?_) Z35_ rfl rfl (a_n HT_.out (by kernel_rfl)) (fun _ _ _ h => h) (Or.inr ⟨by rfl,rfl⟩) ?_ ?_
       rotate_left
       ·simp only [Act.put,sa_,sb_,sc_,a_r,a_s]
        rfl
       refine a_y (i:=6) (N:=some 34) (v:=undef) (a':=?_) Z40_ rfl rfl (a_n HT_.out (by kernel_rfl)) (fun _ _ _ h => h) (Or.inr ⟨by rfl,rfl⟩) ?_ ?_
       rotate_left
       ·simp only [Act.put,sa_,sb_,sc_,a_r,a_s]
        rfl
       refine a_y (i:=7) (N:=some 35) (v:=undef) (a':=?_) Z46_ rfl rfl (a_n HT_.out (by kernel_rfl)) (fun _ _ _ h => h) (Or.inr ⟨by rfl,rfl⟩) ?_ ?_
       rotate_left
       ·simp only [Act.put,sa_,sb_,sc_,a_r,a_s]
        rfl
       refine a_y (i:=8) (N:=some 36) (v:=undef) (a':=?_) Z55_ rfl rfl (a_n HT_.out (by kernel_rfl)) (fun _ _ _ h => h) (Or.inr ⟨by rfl,rfl⟩) ?_ ?_
       rotate_left
       ·simp only [Act.put,sa_,sb_,sc_,a_r,a_s]
        rfl
       refine a_y (i:=9) (N:=some 37) (v:=undef) (a':=?_) Z60_ rfl rfl (a_n HT_.out (by kernel_rfl)) (fun _ _ _ h => h) (Or.inr ⟨by rfl,rfl⟩) ?_ ?_
       rotate_left
       ·simp only [Act.put,sa_,sb_,sc_,a_r,a_s]
        rfl
       refine a_y (i:=10) (N:=some 38) (v:=undef) (a':=?_) Z64_ rfl rfl (a_n HT_.out (by kernel_rfl)) (fun _ _ _ h => h) (Or.inr ⟨by rfl,rfl⟩) ?_ ?_
       rotate_left
       ·simp only [Act.put,sa_,sb_,sc_,a_r,a_s]
        rfl
       refine a_y (i:=11) (N:=some 39) (v:=undef) (a':=?_) Z70_ rfl rfl (a_n HT_.out (by kernel_rfl)) (fun _ _ _ h => h) (Or.inr ⟨by rfl,rfl⟩) ?_ ?_
       rotate_left
       ·simp only [Act.put,sa_,sb_,sc_,a_r,a_s]
        rfl
       refine a_y (i:=12) (N:=some 40) (v:=undef) (a':=?_) Z76_ rfl rfl (a_n HT_.out (by kernel_rfl)) (fun _ _ _ h => h) (Or.inr ⟨by rfl,rfl⟩) ?_ ?_
       rotate_left
       ·simp only [Act.put,sa_,sb_,sc_,a_r,a_s]
        rfl
       refine a_y (i:=13) (N:=some 41) (v:=undef) (a':=?_) Z81_ rfl rfl (a_n HT_.out (by kernel_rfl)) (fun _ _ _ h => h) (Or.inr ⟨by rfl,rfl⟩) ?_ ?_
       rotate_left
       ·simp only [Act.put,sa_,sb_,sc_,a_r,a_s]
        rfl
       refine a_y (i:=14) (N:=some 42) (v:=undef) (a':=?_) Z85_ rfl rfl (a_n HT_.out (by kernel_rfl)) (fun _ _ _ h => h) (Or.inr ⟨by rfl,rfl⟩) ?_ ?_
       rotate_left
       ·simp only [Act.put,sa_,sb_,sc_,a_r,a_s]
        rfl
       refine a_y (i:=15) (N:=some 43) (v:=undef) (a':=?_) Z92_ rfl rfl (a_n HT_.out (by kernel_rfl)) (fun _ _ _ h => h) (Or.inr ⟨by rfl,rfl⟩) ?_ ?_
       rotate_left
       ·simp only [Act.put,sa_,sb_,sc_,a_r,a_s]
        rfl
       refine a_y (i:=16) (N:=some 44) (v:=undef) (a':=?_) Z96_ rfl rfl (a_n HT_.out (by kernel_rfl)) (fun _ _ _ h => h) (Or.inr ⟨by rfl,rfl⟩) ?_ ?_
       rotate_left
       ·simp only [Act.put,sa_,sb_,sc_,a_r,a_s]
        rfl
       refine a_y (i:=17) (N:=some 45) (v:=undef) (a':=?_) s_m rfl rfl (a_n HT_.out (by kernel_rfl)) (fun _ _ _ h => h) (Or.inr ⟨by rfl,rfl⟩) ?_ ?_
       rotate_left
       ·simp only [Act.put,sa_,sb_,sc_,a_r,a_s]
        rfl
       refine a_y (i:=18) (N:=some 46) (v:=?_) (a':=?_) r_2 rfl rfl (a_n HT_.out (by kernel_rfl)) (fun _ _ _ h => h) (Or.inl ⟨by rfl,?_⟩) ?_ ?_
       rotate_left
       ·intro w'
        go_simp
        with_reducible rfl
       rotate_left
       ·simp only [Act.put,sa_,sb_,sc_,a_r,a_s]
        rfl
       refine e_T (c_u HT_.out (by kernel_rfl)) ?_
       try go_wp2
       go_meet
       case rel => exact ⟨_,(true),(by first|rfl|(simp;done)|(simp [*];done)),H',⟨by have:=HJ1.out;have:=HK2.out;first|omega|exact Nat.le_refl _⟩,⟨by (with_reducible repeat (first|refine a_j ?_ _|refine a_k ?_|refine a_i ?_ _));exact b_s.out⟩,⟨by (with_reducible repeat (first|refine a_j ?_ _|refine a_k ?_|refine a_i ?_ _));exact a_M.out⟩,⟨by repeat (first|(with_reducible first|exact HB.out|apply a_g|apply a_f|apply a_h|refine a_d ?_ d_Y.out|refine a_d ?_ e_C.out)|exact HB.out)⟩⟩
      subst c16
      have H1 : (if x3_2 > 0 then (if 0 ≤ (wrap64 (x3_2 - 1)) then (if (wrap64 (x3_2 - 1)) < (l0_1.length : Int) then (a_m.j2 k2 x3_2 (decide (((a_c l0_1 (wrap64 (x3_2 - 1))).f0) ≥ ((a_c l0_1 x3_2).f0))) a0_0 l0_1 ((a_c l0_1 x3_2).f0) ((a_c l0_1 x3_2).f1) ((a_c l0_1 x3_2).f2) ((a_c l0_1 x3_2).f3) ((a_c l0_1 x3_2).f4) ((a_c l0_1 x3_2).f5) ((a_c l0_1 x3_2).f6) ((a_c l0_1 x3_2).f7) ((a_c l0_1 x3_2).f8) ((a_c l0_1 x3_2).f9) ((a_c l0_1 x3_2).f10)) else (none)) else (none)) else (a_m.j2 k2 x3_2 false a0_0 l0_1 ((a_c l0_1 x3_2).f0) ((a_c l0_1 x3_2).f1) ((a_c l0_1 x3_2).f2) ((a_c l0_1 x3_2).f3) ((a_c l0_1 x3_2).f4) ((a_c l0_1 x3_2).f5) ((a_c l0_1 x3_2).f6) ((a_c l0_1 x3_2).f7) ((a_c l0_1 x3_2).f8) ((a_c l0_1 x3_2).f9) ((a_c l0_1 x3_2).f10))) = some r:=by rw [if_pos rfl] at H;exact H
      clear H
      have H:=H1
      clear H1
      by_cases c17 : x3_2 > 0
      rotate_left
      ·rw [if_neg c17] at H
       have c17b0 : decide (0 < x3_2) = false:=decide_eq_false c17
       clear c17
       (first|rw [c17b0]|(simp only [a_r,a_s];rw [c17b0])|skip)
       have H':=a_e.mk H
       clear H
       try go_wp2
       have n0_ : a_e ((((((((((((w12.setCell ⟨a_T,0,none⟩ (.int .i64 ((a_c l0_1 x3_2).f0))).setCell ⟨a_T,1,none⟩ (.int .i64 ((a_c l0_1 x3_2).f1))).setCell ⟨a_T,2,none⟩ (.int .i64 ((a_c l0_1 x3_2).f2))).setCell ⟨a_T,3,none⟩ (.int .i64 ((a_c l0_1 x3_2).f3))).setCell ⟨a_T,4,none⟩ (.int .i64 ((a_c l0_1 x3_2).f4))).setCell ⟨a_T,5,none⟩ (.bool ((a_c l0_1 x3_2).f5))).setCell ⟨a_T,6,none⟩ (.bool ((a_c l0_1 x3_2).f6))).setCell ⟨a_T,7,none⟩ (.int .u32 ((a_c l0_1 x3_2).f7))).setCell ⟨a_T,8,none⟩ (.int .i64 ((a_c l0_1 x3_2).f8))).setCell ⟨a_T,9,none⟩ (.int .i64 ((a_c l0_1 x3_2).f9))).setCell ⟨a_T,10,none⟩ (.int .i64 ((a_c l0_1 x3_2).f10))).heap[d_F]? = some (.cells #[.int .i64 a0_0,.slice (some ad213) l0_1.length c0_1] 27 (0,0))):=⟨by (with_reducible repeat (first|refine a_j ?_ _|refine a_k ?_|refine a_i ?_ _));refine a_B ?_ b_j.out _;(with_reducible repeat (first|refine a_j ?_ _|refine a_k ?_|refine a_i ?_ _));refine a_B ?_ b_j.out _;(with_reducible repeat (first|refine a_j ?_ _|refine a_k ?_|refine a_i ?_ _));refine a_B ?_ b_j.out _;(with_reducible repeat (first|refine a_j ?_ _|refine a_k ?_|refine a_i ?_ _));refine a_B ?_ b_j.out _;(with_reducible repeat (first|refine a_j ?_ _|refine a_k ?_|refine a_i ?_ _));refine a_B ?_ b_j.out _;(with_reducible repeat (first|refine a_j ?_ _|refine a_k ?_|refine a_i ?_ _));refine a_B ?_ b_j.out _;(with_reducible repeat (first|refine a_j ?_ _|refine a_k ?_|refine a_i ?_ _));refine a_B ?_ b_j.out _;(with_reducible repeat (first|refine a_j ?_ _|refine a_k ?_|refine a_i ?_ _));refine a_B ?_ b_j.out _;(with_reducible repeat (first|refine a_j ?_ _|refine a_k ?_|refine a_i ?_ _));refine a_B ?_ b_j.out _;(with_reducible repeat (first|refine a_j ?_ _|refine a_k ?_|refine a_i ?_ _));refine a_B ?_ b_j.out _;(with_reducible repeat (first|refine a_j ?_ _|refine a_k ?_|refine a_i ?_ _));refine a_B ?_ b_j.out _;(with_reducible repeat (first|refine a_j ?_ _|refine a_k ?_|refine a_i ?_ _));exact b_s.out⟩
       have n1_ : a_e ((((((((((((w12.setCell ⟨a_T,0,none⟩ (.int .i64 ((a_c l0_1 x3_2).f0))).setCell ⟨a_T,1,none⟩ (.int .i64 ((a_c l0_1 x3_2).f1))).setCell ⟨a_T,2,none⟩ (.int .i64 ((a_c l0_1 x3_2).f2))).setCell ⟨a_T,3,none⟩ (.int .i64 ((a_c l0_1 x3_2).f3))).setCell ⟨a_T,4,none⟩ (.int .i64 ((a_c l0_1 x3_2).f4))).setCell ⟨a_T,5,none⟩ (.bool ((a_c l0_1 x3_2).f5))).setCell ⟨a_T,6,none⟩ (.bool ((a_c l0_1 x3_2).f6))).setCell ⟨a_T,7,none⟩ (.int .u32 ((a_c l0_1 x3_2).f7))).setCell ⟨a_T,8,none⟩ (.int .i64 ((a_c l0_1 x3_2).f8))).setCell ⟨a_T,9,none⟩ (.int .i64 ((a_c l0_1 x3_2).f9))).setCell ⟨a_T,10,none⟩ (.int .i64 ((a_c l0_1 x3_2).f10))).heap[a_T]? = some (.cells #[.int .i64 ((a_c l0_1 x3_2).f0),.int .i64 ((a_c l0_1 x3_2).f1),.int .i64 ((a_c l0_1 x3_2).f2),.int .i64 ((a_c l0_1 x3_2).f3),.int .i64 ((a_c l0_1 x3_2).f4),.bool ((a_c l0_1 x3_2).f5),.bool ((a_c l0_1 x3_2).f6),.int .u32 ((a_c l0_1 x3_2).f7),.int .i64 ((a_c l0_1 x3_2).f8),.int .i64 ((a_c l0_1 x3_2).f9),.int .i64 ((a_c l0_1 x3_2).f10)] 65 (0,0))):=⟨by (with_reducible repeat (first|refine a_j ?_ _|refine a_k ?_|refine a_i ?_ _));refine a_J (cs:=#[.int .i64 ((a_c l0_1 x3_2).f0),.int .i64 ((a_c l0_1 x3_2).f1),.int .i64 ((a_c l0_1 x3_2).f2),.int .i64 ((a_c l0_1 x3_2).f3),.int .i64 ((a_c l0_1 x3_2).f4),.bool ((a_c l0_1 x3_2).f5),.bool ((a_c l0_1 x3_2).f6),.int .u32 ((a_c l0_1 x3_2).f7),.int .i64 ((a_c l0_1 x3_2).f8),.int .i64 ((a_c l0_1 x3_2).f9),.int .i64 0]) ?_ 10 _ rfl;(with_reducible repeat (first|refine a_j ?_ _|refine a_k ?_|refine a_i ?_ _));refine a_J (cs:=#[.int .i64 ((a_c l0_1 x3_2).f0),.int .i64 ((a_c l0_1 x3_2).f1),.int .i64 ((a_c l0_1 x3_2).f2),.int .i64 ((a_c l0_1 x3_2).f3),.int .i64 ((a_c l0_1 x3_2).f4),.bool ((a_c l0_1 x3_2).f5),.bool ((a_c l0_1 x3_2).f6),.int .u32 ((a_c l0_1 x3_2).f7),.int .i64 ((a_c l0_1 x3_2).f8),.int .i64 0,.int .i64 0]) ?_ 9 _ rfl;(with_reducible repeat (first|refine a_j ?_ _|refine a_k ?_|refine a_i ?_ _));refine a_J (cs:=#[.int .i64 ((a_c l0_1 x3_2).f0),.int .i64 ((a_c l0_1 x3_2).f1),.int .i64 ((a_c l0_1 x3_2).f2),.int .i64 ((a_c l0_1 x3_2).f3),.int .i64 ((a_c l0_1 x3_2).f4),.bool ((a_c l0_1 x3_2).f5),.bool ((a_c l0_1 x3_2).f6),.int .u32 ((a_c l0_1 x3_2).f7),.int .i64 0,.int .i64 0,.int .i64 0]) ?_ 8 _ rfl;(with_reducible repeat (first|refine a_j ?_ _|refine a_k ?_|refine a_i ?_ _));refine a_J (cs:=#[.int .i64 ((a_c l0_1 x3_2).f0),.int .i64 ((a_c l0_1 x3_2).f1),.int .i64 ((a_c l0_1 x3_2).f2),.int .i64 ((a_c l0_1 x3_2).f3),.int .i64 ((a_c l0_1 x3_2).f4),.bool ((a_c l0_1 x3_2).f5),.bool ((a_c l0_1 x3_2).f6),.int .u32 0,.int .i64 0,.int .i64 0,.int .i64 0]) ?_ 7 _ rfl;(with_reducible repeat (first|refine a_j ?_ _|refine a_k ?_|refine a_i ?_ _));refine a_J (cs:=#[.int .i64 ((a_c l0_1 x3_2).f0),.int .i64 ((a_c l0_1 x3_2).f1),.int .i64 ((a_c l0_1 x3_2).f2),.int .i64 ((a_c l0_1 x3_2).f3),.int .i64 ((a_c l0_1 x3_2).f4),.bool ((a_c l0_1 x3_2).f5),.bool false,.int .u32 0,.int .i64 0,.int .i64 0,.int .i64 0]) ?_ 6 _ rfl;(with_reducible repeat (first|refine a_j ?_ _|refine a_k ?_|refine a_i ?_ _));refine a_J (cs:=#[.int .i64 ((a_c l0_1 x3_2).f0),.int .i64 ((a_c l0_1 x3_2).f1),.int .i64 ((a_c l0_1 x3_2).f2),.int .i64 ((a_c l0_1 x3_2).f3),.int .i64 ((a_c l0_1 x3_2).f4),.bool false,.bool false,.int .u32 0,.int .i64 0,.int .i64 0,.int .i64 0]) ?_ 5 _ rfl;(with_reducible repeat (first|refine a_j ?_ _|refine a_k ?_|refine a_i ?_ _));refine a_J (cs:=#[.int .i64 ((a_c l0_1 x3_2).f0),.int .i64 ((a_c l0_1 x3_2).f1),.int .i64 ((a_c l0_1 x3_2).f2),.int .i64 ((a_c l0_1 x3_2).f3),.int .i64 0,.bool false,.bool false,.int .u32 0,.int .i64 0,.int .i64 0,.int .i64 0]) ?_ 4 _ rfl;(with_reducible repeat (first|refine a_j ?_ _|refine a_k ?_|refine a_i ?_ _));refine a_J (cs:=#[.int .i64 ((a_c l0_1 x3_2).f0),.int .i64 ((a_c l0_1 x3_2).f1),.int .i64 ((a_c l0_1 x3_2).f2),.int .i64 0,.int .i64 0,.bool false,.bool false,.int .u32 0,.int .i64 0,.int .i64 0,.int .i64 0]) ?_ 3 _ rfl;(with_reducible repeat (first|refine a_j ?_ _|refine a_k ?_|refine a_i ?_ _));refine a_J (cs:=#[.int .i64 ((a_c l0_1 x3_2).f0),.int .i64 ((a_c l0_1 x3_2).f1),.int .i64 0,.int .i64 0,.int .i64 0,.bool false,.bool false,.int .u32 0,.int .i64 0,.int .i64 0,.int .i64 0]) ?_ 2 _ rfl;(with_reducible repeat (first|refine a_j ?_ _|refine a_k ?_|refine a_i ?_ _));refine a_J (cs:=#[.int .i64 ((a_c l0_1 x3_2).f0),.int .i64 0,.int .i64 0,.int .i64 0,.int .i64 0,.bool false,.bool false,.int .u32 0,.int .i64 0,.int .i64 0,.int .i64 0]) ?_ 1 _ rfl;(with_reducible repeat (first|refine a_j ?_ _|refine a_k ?_|refine a_i ?_ _));refine a_J (cs:=#[.int .i64 0,.int .i64 0,.int .i64 0,.int .i64 0,.int .i64 0,.bool false,.bool false,.int .u32 0,.int .i64 0,.int .i64 0,.int .i64 0]) ?_ 0 _ rfl;(with_reducible repeat (first|refine a_j ?_ _|refine a_k ?_|refine a_i ?_ _));exact a_M.out⟩
       have n2_ : a_e (Below w.heap.size w (((((((((((w12.setCell ⟨a_T,0,none⟩ (.int .i64 ((a_c l0_1 x3_2).f0))).setCell ⟨a_T,1,none⟩ (.int .i64 ((a_c l0_1 x3_2).f1))).setCell ⟨a_T,2,none⟩ (.int .i64 ((a_c l0_1 x3_2).f2))).setCell ⟨a_T,3,none⟩ (.int .i64 ((a_c l0_1 x3_2).f3))).setCell ⟨a_T,4,none⟩ (.int .i64 ((a_c l0_1 x3_2).f4))).setCell ⟨a_T,5,none⟩ (.bool ((a_c l0_1 x3_2).f5))).setCell ⟨a_T,6,none⟩ (.bool ((a_c l0_1 x3_2).f6))).setCell ⟨a_T,7,none⟩ (.int .u32 ((a_c l0_1 x3_2).f7))).setCell ⟨a_T,8,none⟩ (.int .i64 ((a_c l0_1 x3_2).f8))).setCell ⟨a_T,9,none⟩ (.int .i64 ((a_c l0_1 x3_2).f9))).setCell ⟨a_T,10,none⟩ (.int .i64 ((a_c l0_1 x3_2).f10)))):=⟨by repeat (first|(with_reducible first|exact HB.out|apply a_g|apply a_f|apply a_h|refine a_d ?_ d_Y.out|refine a_d ?_ e_C.out)|exact HB.out)⟩
       (try clear b_s)
       (try clear a_M)
       (try clear HB)
       generalize (((((((((((w12.setCell ⟨a_T,0,none⟩ (.int .i64 ((a_c l0_1 x3_2).f0))).setCell ⟨a_T,1,none⟩ (.int .i64 ((a_c l0_1 x3_2).f1))).setCell ⟨a_T,2,none⟩ (.int .i64 ((a_c l0_1 x3_2).f2))).setCell ⟨a_T,3,none⟩ (.int .i64 ((a_c l0_1 x3_2).f3))).setCell ⟨a_T,4,none⟩ (.int .i64 ((a_c l0_1 x3_2).f4))).setCell ⟨a_T,5,none⟩ (.bool ((a_c l0_1 x3_2).f5))).setCell ⟨a_T,6,none⟩ (.bool ((a_c l0_1 x3_2).f6))).setCell ⟨a_T,7,none⟩ (.int .u32 ((a_c l0_1 x3_2).f7))).setCell ⟨a_T,8,none⟩ (.int .i64 ((a_c l0_1 x3_2).f8))).setCell ⟨a_T,9,none⟩ (.int .i64 ((a_c l0_1 x3_2).f9))).setCell ⟨a_T,10,none⟩ (.int .i64 ((a_c l0_1 x3_2).f10))) = w24 at n0_ n1_ n2_ ⊢
       have b_s:=n0_
       have a_M:=n1_
       have HB:=n2_
       clear n0_ n1_ n2_
       replace b_s:=a_e.mk (a_k b_s.out)
       replace a_M:=a_e.mk (a_k a_M.out)
       replace HB:=a_e.mk (a_h HB.out)
       refine d_H (n:=19) (S:=fun w' => w'.cell? ⟨a_T,0,none⟩ = some (.int .i64 ((a_c l0_1 x3_2).f0)) ∧ w'.cell? ⟨a_T,1,none⟩ = some (.int .i64 ((a_c l0_1 x3_2).f1)) ∧ w'.cell? ⟨a_T,2,none⟩ = some (.int .i64 ((a_c l0_1 x3_2).f2)) ∧ w'.cell? ⟨a_T,3,none⟩ = some (.int .i64 ((a_c l0_1 x3_2).f3)) ∧ w'.cell? ⟨a_T,4,none⟩ = some (.int .i64 ((a_c l0_1 x3_2).f4)) ∧ w'.cell? ⟨a_T,5,none⟩ = some (.bool ((a_c l0_1 x3_2).f5)) ∧ w'.cell? ⟨a_T,6,none⟩ = some (.bool ((a_c l0_1 x3_2).f6)) ∧ w'.cell? ⟨a_T,7,none⟩ = some (.int .u32 ((a_c l0_1 x3_2).f7)) ∧ w'.cell? ⟨a_T,8,none⟩ = some (.int .i64 ((a_c l0_1 x3_2).f8)) ∧ w'.cell? ⟨a_T,9,none⟩ = some (.int .i64 ((a_c l0_1 x3_2).f9)) ∧ w'.cell? ⟨a_T,10,none⟩ = some (.int .i64 ((a_c l0_1 x3_2).f10))) (ds:=[]) Z3_ (by kernel_rfl) rfl rfl ⟨(a_a a_M.out 0).trans rfl,(a_a a_M.out 1).trans rfl,(a_a a_M.out 2).trans rfl,(a_a a_M.out 3).trans rfl,(a_a a_M.out 4).trans rfl,(a_a a_M.out 5).trans rfl,(a_a a_M.out 6).trans rfl,(a_a a_M.out 7).trans rfl,(a_a a_M.out 8).trans rfl,(a_a a_M.out 9).trans rfl,(a_a a_M.out 10).trans rfl⟩ (fun hHeld => ?_);refine b_Q a_m.tab7 a_m.n_V (fun HT_ HW_ => ?_)
       generalize w24.drew = w25 at b_s a_M HB hHeld ⊢
       refine b_m (i:=0) (N:=some 28) (v:=?_) (a':=?_) Z9_ rfl rfl (a_L HT_.out HW_.out (by kernel_rfl)) (fun _ _ _ h => h) (Or.inl ⟨by rfl,?_⟩) hHeld ?_ ?_
       rotate_left
       ·rintro w' ⟨s0,s1,s2,s3,s4,s5,s6,s7,s8,s9,s10⟩
        go_simp
        with_reducible rfl
       rotate_left
       ·simp only [Act.put,sa_,sb_,sc_,a_r,a_s]
        rfl
       refine one_ (i:=1) (N:=some 29) Z16_ rfl rfl (c_e HT_.out (by kernel_rfl)) (by decide) (fun K hK => ?_)
       refine e_I Try.func54 (by kernel_rfl) rfl #[.agg #[.int .i64 ((a_c l0_1 x3_2).f0),.int .i64 ((a_c l0_1 x3_2).f1),.int .i64 ((a_c l0_1 x3_2).f2),.int .i64 ((a_c l0_1 x3_2).f3),.int .i64 ((a_c l0_1 x3_2).f4),.bool ((a_c l0_1 x3_2).f5),.bool ((a_c l0_1 x3_2).f6),.int .u32 ((a_c l0_1 x3_2).f7),.int .i64 ((a_c l0_1 x3_2).f8),.int .i64 ((a_c l0_1 x3_2).f9),.int .i64 ((a_c l0_1 x3_2).f10)]] (by rfl) rfl rfl (by (try simp only [List.map_toArray,List.map_cons,List.map_nil]);first|done|rfl|(simp only [List.length_drop,List.length_take];rfl)) ?_
       with_reducible refine (b_I.calls ((a_c l0_1 x3_2).f0) ((a_c l0_1 x3_2).f1) ((a_c l0_1 x3_2).f2) ((a_c l0_1 x3_2).f3) ((a_c l0_1 x3_2).f4) ((a_c l0_1 x3_2).f5) ((a_c l0_1 x3_2).f6) ((a_c l0_1 x3_2).f7) ((a_c l0_1 x3_2).f8) ((a_c l0_1 x3_2).f9) ((a_c l0_1 x3_2).f10) true _ A15.out).mono ?_
       rintro e w26 ⟨rfl,hb⟩
       refine ⟨_,rfl,?_⟩
       replace b_s:=a_e.mk (a_l (bup_ b_s.out) hb)
       replace a_M:=a_e.mk (a_l (bup_ a_M.out) hb)
       replace HB:=a_e.mk (a_t (by repeat (first|(with_reducible first|exact HB.out|apply a_g|apply a_f|apply a_h|refine a_d ?_ d_Y.out|refine a_d ?_ e_C.out)|exact HB.out)) hb)
       (try clear hb)
       (try clear hb2)
       (try clear hk)
       (try clear hi)
       refine hK.out _ _ ⟨(a_a a_M.out 0).trans rfl,(a_a a_M.out 1).trans rfl,(a_a a_M.out 2).trans rfl,(a_a a_M.out 3).trans rfl,(a_a a_M.out 4).trans rfl,(a_a a_M.out 5).trans rfl,(a_a a_M.out 6).trans rfl,(a_a a_M.out 7).trans rfl,(a_a a_M.out 8).trans rfl,(a_a a_M.out 9).trans rfl,(a_a a_M.out 10).trans rfl⟩ (fun hHeld => ?_)
       clear hK K
       refine d_U (a':=?_) ?_ ?_
       rotate_left
       ·show Act.put _ (some 29) _ = _
        simp only [Act.put,sa_,sb_,sc_,a_r,a_s]
        rfl
       refine a_y (i:=2) (N:=some 30) (v:=?_) (a':=?_) Z22_ rfl rfl (a_n HT_.out (by kernel_rfl)) (fun _ _ _ h => h) (Or.inl ⟨by rfl,?_⟩) ?_ ?_
       rotate_left
       ·intro w'
        go_simp
        with_reducible rfl
       rotate_left
       ·simp only [Act.put,sa_,sb_,sc_,a_r,a_s]
        rfl
       refine a_y (i:=3) (N:=some 31) (v:=?_) (a':=?_) Z27_ rfl rfl (a_n HT_.out (by kernel_rfl)) (fun _ _ _ h => h) (Or.inl ⟨by rfl,?_⟩) ?_ ?_
       rotate_left
       ·intro w'
        go_simp
        with_reducible rfl
       rotate_left
       ·simp only [Act.put,sa_,sb_,sc_,a_r,a_s]
        rfl
       refine a_y (i:=4) (N:=some 32) (v:=?_) (a':=?_) Z31_ rfl rfl (a_n HT_.out (by kernel_rfl)) (fun _ _ _ h => h) (Or.inl ⟨by rfl,?_⟩) ?_ ?_
       rotate_left
       ·intro w'
        go_simp
        with_reducible rfl
       rotate_left
       ·simp only [Act.put,sa_,sb_,sc_,a_r,a_s]
        rfl
       refine a_y (i:=5) (N:=some 33) (v:=?_) (a':=?_) Z35_ rfl rfl (a_n HT_.out (by kernel_rfl)) (fun _ _ _ h => h) (Or.inl ⟨by rfl,?_⟩) ?_ ?_
       rotate_left
       ·intro w'
        go_simp
        with_reducible rfl
       rotate_left
       ·simp only [Act.put,sa_,sb_,sc_,a_r,a_s]
        rfl
       refine a_y (i:=6) (N:=some 34) (v:=?_) (a':=?_) Z40_ rfl rfl (a_n HT_.out (by kernel_rfl)) (fun _ _ _ h => h) (Or.inl ⟨by rfl,?_⟩) ?_ ?_
       rotate_left
       ·intro w'
        go_simp
        with_reducible rfl
       rotate_left
       ·simp only [Act.put,sa_,sb_,sc_,a_r,a_s]
        rfl
       refine a_y (i:=7) (N:=some 35) (v:=undef) (a':=?_) Z46_ rfl rfl (a_n HT_.out (by kernel_rfl)) (fun _ _ _ h => h) (Or.inr ⟨by rfl,rfl⟩) ?_ ?_
       rotate_left
       ·simp only [Act.put,sa_,sb_,sc_,a_r,a_s]
        rfl
       refine a_y (i:=8) (N:=some 36) (v:=undef) (a':=?_) Z55_ rfl rfl (a_n HT_.out (by kernel_rfl)) (fun _ _ _ h => h) (Or.inr ⟨by rfl,rfl⟩) ?_ ?_
       rotate_left
       ·simp only [Act.put,sa_,sb_,sc_,a_r,a_s]
        rfl
       refine a_y (i:=9) (N:=some 37) (v:=undef) (a':=?_) Z60_ rfl rfl (a_n HT_.out (by kernel_rfl)) (fun _ _ _ h => h) (Or.inr ⟨by rfl,rfl⟩) ?_ ?_
       rotate_left
       ·simp only [Act.put,sa_,sb_,sc_,a_r,a_s]
        rfl
       refine a_y (i:=10) (N:=some 38) (v:=undef) (a':=?_) Z64_ rfl rfl (a_n HT_.out (by kernel_rfl)) (fun _ _ _ h => h) (Or.inr ⟨by rfl,rfl⟩) ?_ ?_
       rotate_left
       ·simp only [Act.put,sa_,sb_,sc_,a_r,a_s]
        rfl
       refine a_y (i:=11) (N:=some 39) (v:=undef) (a':=?_) Z70_ rfl rfl (a_n HT_.out (by kernel_rfl)) (fun _ _ _ h => h) (Or.inr ⟨by rfl,rfl⟩) ?_ ?_
       rotate_left
       ·simp only [Act.put,sa_,sb_,sc_,a_r,a_s]
        rfl
       refine a_y (i:=12) (N:=some 40) (v:=undef) (a':=?_) Z76_ rfl rfl (a_n HT_.out (by kernel_rfl)) (fun _ _ _ h => h) (Or.inr ⟨by rfl,rfl⟩) ?_ ?_
       rotate_left
       ·simp only [Act.put,sa_,sb_,sc_,a_r,a_s]
        rfl
       refine a_y (i:=13) (N:=some 41) (v:=undef) (a':=?_) Z81_ rfl rfl (a_n HT_.out (by kernel_rfl)) (fun _ _ _ h => h) (Or.inr ⟨by rfl,rfl⟩) ?_ ?_
       rotate_left
       ·simp only [Act.put,sa_,sb_,sc_,a_r,a_s]
        rfl
       refine a_y (i:=14) (N:=some 42) (v:=undef) (a':=?_) Z85_ rfl rfl (a_n HT_.out (by kernel_rfl)) (fun _ _ _ h => h) (Or.inr ⟨by rfl,rfl⟩) ?_ ?_
       rotate_left
       ·simp only [Act.put,sa_,sb_,sc_,a_r,a_s]
        rfl
       refine a_y (i:=15) (N:=some 43) (v:=undef) (a':=?_) Z92_ rfl rfl (a_n HT_.out (by kernel_rfl)) (fun _ _ _ h => h) (Or.inr ⟨by rfl,rfl⟩) ?_ ?_
       rotate_left
       ·simp only [Act.put,sa_,sb_,sc_,a_r,a_s]
        rfl
       refine a_y (i:=16) (N:=some 44) (v:=undef) (a':=?_) Z96_ rfl rfl (a_n HT_.out (by kernel_rfl)) (fun _ _ _ h => h) (Or.inr ⟨by rfl,rfl⟩) ?_ ?_
       rotate_left
       ·simp only [Act.put,sa_,sb_,sc_,a_r,a_s]
        rfl
       refine a_y (i:=17) (N:=some 45) (v:=?_) (a':=?_) s_m rfl rfl (a_n HT_.out (by kernel_rfl)) (fun _ _ _ h => h) (Or.inl ⟨by rfl,?_⟩) ?_ ?_
       rotate_left
       ·intro w'
        go_simp
        with_reducible rfl
       rotate_left
       ·simp only [Act.put,sa_,sb_,sc_,a_r,a_s]
        rfl
       refine a_y (i:=18) (N:=some 46) (v:=?_) (a':=?_) r_2 rfl rfl (a_n HT_.out (by kernel_rfl)) (fun _ _ _ h => h) (Or.inl ⟨by rfl,?_⟩) ?_ ?_
       rotate_left
       ·intro w'
        go_simp
        with_reducible rfl
       rotate_left
       ·simp only [Act.put,sa_,sb_,sc_,a_r,a_s]
        rfl
       refine e_T (c_u HT_.out (by kernel_rfl)) ?_
       try go_wp2
       go_meet
       case rel => exact ⟨_,(false),(by first|rfl|(simp;done)|(simp [*];done)),H',⟨by have:=HJ1.out;have:=HK2.out;first|omega|exact Nat.le_refl _⟩,⟨by (with_reducible repeat (first|refine a_j ?_ _|refine a_k ?_|refine a_i ?_ _));exact b_s.out⟩,⟨by (with_reducible repeat (first|refine a_j ?_ _|refine a_k ?_|refine a_i ?_ _));exact a_M.out⟩,⟨by repeat (first|(with_reducible first|exact HB.out|apply a_g|apply a_f|apply a_h|refine a_d ?_ d_Y.out|refine a_d ?_ e_C.out)|exact HB.out)⟩⟩
      rw [if_pos c17] at H
      have c17b0 : decide (0 < x3_2) = true:=decide_eq_true c17
      clear c17
      (first|rw [c17b0]|(simp only [a_r,a_s];rw [c17b0])|skip)
      obtain ⟨ji18,hji18⟩ : ∃ j_ : Int,(wrap64 (x3_2 - 1)) = j_:=⟨_,rfl⟩
      replace H : (if 0 ≤ (ji18) then (if (ji18) < (l0_1.length : Int) then (a_m.j2 k2 x3_2 (decide (((a_c l0_1 (ji18)).f0) ≥ ((a_c l0_1 x3_2).f0))) a0_0 l0_1 ((a_c l0_1 x3_2).f0) ((a_c l0_1 x3_2).f1) ((a_c l0_1 x3_2).f2) ((a_c l0_1 x3_2).f3) ((a_c l0_1 x3_2).f4) ((a_c l0_1 x3_2).f5) ((a_c l0_1 x3_2).f6) ((a_c l0_1 x3_2).f7) ((a_c l0_1 x3_2).f8) ((a_c l0_1 x3_2).f9) ((a_c l0_1 x3_2).f10)) else (none)) else (none)) = some r:=by first|(rw [hji18] at H;exact H)|(simp only [hji18] at H ⊢; exact H)
      (try rw [hji18] at A15)
      have hji18w : (IntKind.i64.wrap (x3_2 - 1)) = ji18:=(a_r _).trans hji18
      by_cases c19 : 0 ≤ (ji18)
      rotate_left
      ·rw [if_neg c19] at H
       exact absurd H (by simp)
      rw [if_pos c19] at H
      have c19b0 : decide (0 ≤ (ji18)) = true:=decide_eq_true c19
      clear c19
      by_cases c20 : (ji18) < (l0_1.length : Int)
      rotate_left
      ·rw [if_neg c20] at H
       exact absurd H (by simp)
      rw [if_pos c20] at H
      have c20b0 : decide ((ji18) < (l0_1.length : Int)) = true:=decide_eq_true c20
      clear c20
      have H':=a_e.mk H
      clear H
      try go_wp2
      have n0_ : a_e ((((((((((((w12.setCell ⟨a_T,0,none⟩ (.int .i64 ((a_c l0_1 x3_2).f0))).setCell ⟨a_T,1,none⟩ (.int .i64 ((a_c l0_1 x3_2).f1))).setCell ⟨a_T,2,none⟩ (.int .i64 ((a_c l0_1 x3_2).f2))).setCell ⟨a_T,3,none⟩ (.int .i64 ((a_c l0_1 x3_2).f3))).setCell ⟨a_T,4,none⟩ (.int .i64 ((a_c l0_1 x3_2).f4))).setCell ⟨a_T,5,none⟩ (.bool ((a_c l0_1 x3_2).f5))).setCell ⟨a_T,6,none⟩ (.bool ((a_c l0_1 x3_2).f6))).setCell ⟨a_T,7,none⟩ (.int .u32 ((a_c l0_1 x3_2).f7))).setCell ⟨a_T,8,none⟩ (.int .i64 ((a_c l0_1 x3_2).f8))).setCell ⟨a_T,9,none⟩ (.int .i64 ((a_c l0_1 x3_2).f9))).setCell ⟨a_T,10,none⟩ (.int .i64 ((a_c l0_1 x3_2).f10))).heap[d_F]? = some (.cells #[.int .i64 a0_0,.slice (some ad213) l0_1.length c0_1] 27 (0,0))):=⟨by (with_reducible repeat (first|refine a_j ?_ _|refine a_k ?_|refine a_i ?_ _));refine a_B ?_ b_j.out _;(with_reducible repeat (first|refine a_j ?_ _|refine a_k ?_|refine a_i ?_ _));refine a_B ?_ b_j.out _;(with_reducible repeat (first|refine a_j ?_ _|refine a_k ?_|refine a_i ?_ _));refine a_B ?_ b_j.out _;(with_reducible repeat (first|refine a_j ?_ _|refine a_k ?_|refine a_i ?_ _));refine a_B ?_ b_j.out _;(with_reducible repeat (first|refine a_j ?_ _|refine a_k ?_|refine a_i ?_ _));refine a_B ?_ b_j.out _;(with_reducible repeat (first|refine a_j ?_ _|refine a_k ?_|refine a_i ?_ _));refine a_B ?_ b_j.out _;(with_reducible repeat (first|refine a_j ?_ _|refine a_k ?_|refine a_i ?_ _));refine a_B ?_ b_j.out _;(with_reducible repeat (first|refine a_j ?_ _|refine a_k ?_|refine a_i ?_ _));refine a_B ?_ b_j.out _;(with_reducible repeat (first|refine a_j ?_ _|refine a_k ?_|refine a_i ?_ _));refine a_B ?_ b_j.out _;(with_reducible repeat (first|refine a_j ?_ _|refine a_k ?_|refine a_i ?_ _));refine a_B ?_ b_j.out _;(with_reducible repeat (first|refine a_j ?_ _|refine a_k ?_|refine a_i ?_ _));refine a_B ?_ b_j.out _;(with_reducible repeat (first|refine a_j ?_ _|refine a_k ?_|refine a_i ?_ _));exact b_s.out⟩
      have n1_ : a_e ((((((((((((w12.setCell ⟨a_T,0,none⟩ (.int .i64 ((a_c l0_1 x3_2).f0))).setCell ⟨a_T,1,none⟩ (.int .i64 ((a_c l0_1 x3_2).f1))).setCell ⟨a_T,2,none⟩ (.int .i64 ((a_c l0_1 x3_2).f2))).setCell ⟨a_T,3,none⟩ (.int .i64 ((a_c l0_1 x3_2).f3))).setCell ⟨a_T,4,none⟩ (.int .i64 ((a_c l0_1 x3_2).f4))).setCell ⟨a_T,5,none⟩ (.bool ((a_c l0_1 x3_2).f5))).setCell ⟨a_T,6,none⟩ (.bool ((a_c l0_1 x3_2).f6))).setCell ⟨a_T,7,none⟩ (.int .u32 ((a_c l0_1 x3_2).f7))).setCell ⟨a_T,8,none⟩ (.int .i64 ((a_c l0_1 x3_2).f8))).setCell ⟨a_T,9,none⟩ (.int .i64 ((a_c l0_1 x3_2).f9))).setCell ⟨a_T,10,none⟩ (.int .i64 ((a_c l0_1 x3_2).f10))).heap[a_T]? = some (.cells #[.int .i64 ((a_c l0_1 x3_2).f0),.int .i64 ((a_c l0_1 x3_2).f1),.int .i64 ((a_c l0_1 x3_2).f2),.int .i64 ((a_c l0_1 x3_2).f3),.int .i64 ((a_c l0_1 x3_2).f4),.bool ((a_c l0_1 x3_2).f5),.bool ((a_c l0_1 x3_2).f6),.int .u32 ((a_c l0_1 x3_2).f7),.int .i64 ((a_c l0_1 x3_2).f8),.int .i64 ((a_c l0_1 x3_2).f9),.int .i64 ((a_c l0_1 x3_2).f10)] 65 (0,0))):=⟨by (with_reducible repeat (first|refine a_j ?_ _|refine a_k ?_|refine a_i ?_ _));refine a_J (cs:=#[.int .i64 ((a_c l0_1 x3_2).f0),.int .i64 ((a_c l0_1 x3_2).f1),.int .i64 ((a_c l0_1 x3_2).f2),.int .i64 ((a_c l0_1 x3_2).f3),.int .i64 ((a_c l0_1 x3_2).f4),.bool ((a_c l0_1 x3_2).f5),.bool ((a_c l0_1 x3_2).f6),.int .u32 ((a_c l0_1 x3_2).f7),.int .i64 ((a_c l0_1 x3_2).f8),.int .i64 ((a_c l0_1 x3_2).f9),.int .i64 0]) ?_ 10 _ rfl;(with_reducible repeat (first|refine a_j ?_ _|refine a_k ?_|refine a_i ?_ _));refine a_J (cs:=#[.int .i64 ((a_c l0_1 x3_2).f0),.int .i64 ((a_c l0_1 x3_2).f1),.int .i64 ((a_c l0_1 x3_2).f2),.int .i64 ((a_c l0_1 x3_2).f3),.int .i64 ((a_c l0_1 x3_2).f4),.bool ((a_c l0_1 x3_2).f5),.bool ((a_c l0_1 x3_2).f6),.int .u32 ((a_c l0_1 x3_2).f7),.int .i64 ((a_c l0_1 x3_2).f8),.int .i64 0,.int .i64 0]) ?_ 9 _ rfl;(with_reducible repeat (first|refine a_j ?_ _|refine a_k ?_|refine a_i ?_ _));refine a_J (cs:=#[.int .i64 ((a_c l0_1 x3_2).f0),.int .i64 ((a_c l0_1 x3_2).f1),.int .i64 ((a_c l0_1 x3_2).f2),.int .i64 ((a_c l0_1 x3_2).f3),.int .i64 ((a_c l0_1 x3_2).f4),.bool ((a_c l0_1 x3_2).f5),.bool ((a_c l0_1 x3_2).f6),.int .u32 ((a_c l0_1 x3_2).f7),.int .i64 0,.int .i64 0,.int .i64 0]) ?_ 8 _ rfl;(with_reducible repeat (first|refine a_j ?_ _|refine a_k ?_|refine a_i ?_ _));refine a_J (cs:=#[.int .i64 ((a_c l0_1 x3_2).f0),.int .i64 ((a_c l0_1 x3_2).f1),.int .i64 ((a_c l0_1 x3_2).f2),.int .i64 ((a_c l0_1 x3_2).f3),.int .i64 ((a_c l0_1 x3_2).f4),.bool ((a_c l0_1 x3_2).f5),.bool ((a_c l0_1 x3_2).f6),.int .u32 0,.int .i64 0,.int .i64 0,.int .i64 0]) ?_ 7 _ rfl;(with_reducible repeat (first|refine a_j ?_ _|refine a_k ?_|refine a_i ?_ _));refine a_J (cs:=#[.int .i64 ((a_c l0_1 x3_2).f0),.int .i64 ((a_c l0_1 x3_2).f1),.int .i64 ((a_c l0_1 x3_2).f2),.int .i64 ((a_c l0_1 x3_2).f3),.int .i64 ((a_c l0_1 x3_2).f4),.bool ((a_c l0_1 x3_2).f5),.bool false,.int .u32 0,.int .i64 0,.int .i64 0,.int .i64 0]) ?_ 6 _ rfl;(with_reducible repeat (first|refine a_j ?_ _|refine a_k ?_|refine a_i ?_ _));refine a_J (cs:=#[.int .i64 ((a_c l0_1 x3_2).f0),.int .i64 ((a_c l0_1 x3_2).f1),.int .i64 ((a_c l0_1 x3_2).f2),.int .i64 ((a_c l0_1 x3_2).f3),.int .i64 ((a_c l0_1 x3_2).f4),.bool false,.bool false,.int .u32 0,.int .i64 0,.int .i64 0,.int .i64 0]) ?_ 5 _ rfl;(with_reducible repeat (first|refine a_j ?_ _|refine a_k ?_|refine a_i ?_ _));refine a_J (cs:=#[.int .i64 ((a_c l0_1 x3_2).f0),.int .i64 ((a_c l0_1 x3_2).f1),.int .i64 ((a_c l0_1 x3_2).f2),.int .i64 ((a_c l0_1 x3_2).f3),.int .i64 0,.bool false,.bool false,.int .u32 0,.int .i64 0,.int .i64 0,.int .i64 0]) ?_ 4 _ rfl;(with_reducible repeat (first|refine a_j ?_ _|refine a_k ?_|refine a_i ?_ _));refine a_J (cs:=#[.int .i64 ((a_c l0_1 x3_2).f0),.int .i64 ((a_c l0_1 x3_2).f1),.int .i64 ((a_c l0_1 x3_2).f2),.int .i64 0,.int .i64 0,.bool false,.bool false,.int .u32 0,.int .i64 0,.int .i64 0,.int .i64 0]) ?_ 3 _ rfl;(with_reducible repeat (first|refine a_j ?_ _|refine a_k ?_|refine a_i ?_ _));refine a_J (cs:=#[.int .i64 ((a_c l0_1 x3_2).f0),.int .i64 ((a_c l0_1 x3_2).f1),.int .i64 0,.int .i64 0,.int .i64 0,.bool false,.bool false,.int .u32 0,.int .i64 0,.int .i64 0,.int .i64 0]) ?_ 2 _ rfl;(with_reducible repeat (first|refine a_j ?_ _|refine a_k ?_|refine a_i ?_ _));refine a_J (cs:=#[.int .i64 ((a_c l0_1 x3_2).f0),.int .i64 0,.int .i64 0,.int .i64 0,.int .i64 0,.bool false,.bool false,.int .u32 0,.int .i64 0,.int .i64 0,.int .i64 0]) ?_ 1 _ rfl;(with_reducible repeat (first|refine a_j ?_ _|refine a_k ?_|refine a_i ?_ _));refine a_J (cs:=#[.int .i64 0,.int .i64 0,.int .i64 0,.int .i64 0,.int .i64 0,.bool false,.bool false,.int .u32 0,.int .i64 0,.int .i64 0,.int .i64 0]) ?_ 0 _ rfl;(with_reducible repeat (first|refine a_j ?_ _|refine a_k ?_|refine a_i ?_ _));exact a_M.out⟩
      have n2_ : a_e (Below w.heap.size w (((((((((((w12.setCell ⟨a_T,0,none⟩ (.int .i64 ((a_c l0_1 x3_2).f0))).setCell ⟨a_T,1,none⟩ (.int .i64 ((a_c l0_1 x3_2).f1))).setCell ⟨a_T,2,none⟩ (.int .i64 ((a_c l0_1 x3_2).f2))).setCell ⟨a_T,3,none⟩ (.int .i64 ((a_c l0_1 x3_2).f3))).setCell ⟨a_T,4,none⟩ (.int .i64 ((a_c l0_1 x3_2).f4))).setCell ⟨a_T,5,none⟩ (.bool ((a_c l0_1 x3_2).f5))).setCell ⟨a_T,6,none⟩ (.bool ((a_c l0_1 x3_2).f6))).setCell ⟨a_T,7,none⟩ (.int .u32 ((a_c l0_1 x3_2).f7))).setCell ⟨a_T,8,none⟩ (.int .i64 ((a_c l0_1 x3_2).f8))).setCell ⟨a_T,9,none⟩ (.int .i64 ((a_c l0_1 x3_2).f9))).setCell ⟨a_T,10,none⟩ (.int .i64 ((a_c l0_1 x3_2).f10)))):=⟨by repeat (first|(with_reducible first|exact HB.out|apply a_g|apply a_f|apply a_h|refine a_d ?_ d_Y.out|refine a_d ?_ e_C.out)|exact HB.out)⟩
      (try clear b_s)
      (try clear a_M)
      (try clear HB)
      generalize (((((((((((w12.setCell ⟨a_T,0,none⟩ (.int .i64 ((a_c l0_1 x3_2).f0))).setCell ⟨a_T,1,none⟩ (.int .i64 ((a_c l0_1 x3_2).f1))).setCell ⟨a_T,2,none⟩ (.int .i64 ((a_c l0_1 x3_2).f2))).setCell ⟨a_T,3,none⟩ (.int .i64 ((a_c l0_1 x3_2).f3))).setCell ⟨a_T,4,none⟩ (.int .i64 ((a_c l0_1 x3_2).f4))).setCell ⟨a_T,5,none⟩ (.bool ((a_c l0_1 x3_2).f5))).setCell ⟨a_T,6,none⟩ (.bool ((a_c l0_1 x3_2).f6))).setCell ⟨a_T,7,none⟩ (.int .u32 ((a_c l0_1 x3_2).f7))).setCell ⟨a_T,8,none⟩ (.int .i64 ((a_c l0_1 x3_2).f8))).setCell ⟨a_T,9,none⟩ (.int .i64 ((a_c l0_1 x3_2).f9))).setCell ⟨a_T,10,none⟩ (.int .i64 ((a_c l0_1 x3_2).f10))) = w21 at n0_ n1_ n2_ ⊢
      have b_s:=n0_
      have a_M:=n1_
      have HB:=n2_
      clear n0_ n1_ n2_
      replace b_s:=a_e.mk (a_k b_s.out)
      replace a_M:=a_e.mk (a_k a_M.out)
      replace HB:=a_e.mk (a_h HB.out)
      have p216 : 0 ≤ ((ji18) : Int):=of_decide_eq_true (by first|(with_reducible assumption)|assumption)
      have q216 : (ji18) < (l0_1.length : Int):=of_decide_eq_true (by first|(with_reducible assumption)|assumption)
      obtain ⟨ad216,e216,h_l,h_m,h_n,h_o,h_p,h_q,h_r,h_s,h_t,h_u,g_p⟩:=e_h e_o.out (ji18) p216 q216
      have i_O:=g_p
      have k_2:=h_u
      have k_3:=h_t
      have k_4:=h_s
      have k_5:=h_r
      have k_6:=h_q
      have k_7:=h_p
      have k_8:=h_o
      have k_9:=h_n
      have l_a:=h_m
      have l_b:=h_l
      obtain rfl : ad213 = ad216:=(by injection e216)
      replace h_l:=(HB.out.cell (World.block_lt_of_cell? w _ h_l)).trans h_l
      replace h_m:=(HB.out.cell (World.block_lt_of_cell? w _ h_m)).trans h_m
      replace h_n:=(HB.out.cell (World.block_lt_of_cell? w _ h_n)).trans h_n
      replace h_o:=(HB.out.cell (World.block_lt_of_cell? w _ h_o)).trans h_o
      replace h_p:=(HB.out.cell (World.block_lt_of_cell? w _ h_p)).trans h_p
      replace h_q:=(HB.out.cell (World.block_lt_of_cell? w _ h_q)).trans h_q
      replace h_r:=(HB.out.cell (World.block_lt_of_cell? w _ h_r)).trans h_r
      replace h_s:=(HB.out.cell (World.block_lt_of_cell? w _ h_s)).trans h_s
      replace h_t:=(HB.out.cell (World.block_lt_of_cell? w _ h_t)).trans h_t
      replace h_u:=(HB.out.cell (World.block_lt_of_cell? w _ h_u)).trans h_u
      replace g_p:=(HB.out.cell (World.block_lt_of_cell? w _ g_p)).trans g_p
      replace p216:=eq_true p216
      replace q216:=eq_true q216
      refine d_H (n:=19) (S:=fun w' => w'.cell? ⟨a_T,0,none⟩ = some (.int .i64 ((a_c l0_1 x3_2).f0)) ∧ w'.cell? ⟨a_T,1,none⟩ = some (.int .i64 ((a_c l0_1 x3_2).f1)) ∧ w'.cell? ⟨a_T,2,none⟩ = some (.int .i64 ((a_c l0_1 x3_2).f2)) ∧ w'.cell? ⟨a_T,3,none⟩ = some (.int .i64 ((a_c l0_1 x3_2).f3)) ∧ w'.cell? ⟨a_T,4,none⟩ = some (.int .i64 ((a_c l0_1 x3_2).f4)) ∧ w'.cell? ⟨a_T,5,none⟩ = some (.bool ((a_c l0_1 x3_2).f5)) ∧ w'.cell? ⟨a_T,6,none⟩ = some (.bool ((a_c l0_1 x3_2).f6)) ∧ w'.cell? ⟨a_T,7,none⟩ = some (.int .u32 ((a_c l0_1 x3_2).f7)) ∧ w'.cell? ⟨a_T,8,none⟩ = some (.int .i64 ((a_c l0_1 x3_2).f8)) ∧ w'.cell? ⟨a_T,9,none⟩ = some (.int .i64 ((a_c l0_1 x3_2).f9)) ∧ w'.cell? ⟨a_T,10,none⟩ = some (.int .i64 ((a_c l0_1 x3_2).f10)) ∧ w'.cell? ⟨d_F,0,none⟩ = some (.int .i64 a0_0) ∧ w'.cell? ⟨d_F,1,none⟩ = some (.slice (some ad213) l0_1.length c0_1) ∧ w'.cell? (ad213.add (((ji18)).toNat * 11)) = some (.int .i64 ((a_c l0_1 (ji18)).f0)) ∧ w'.cell? ⟨(ad213.add (((ji18)).toNat * 11)).block,(ad213.add (((ji18)).toNat * 11)).off + 1,none⟩ = some (.int .i64 ((a_c l0_1 (ji18)).f1)) ∧ w'.cell? ⟨(ad213.add (((ji18)).toNat * 11)).block,(ad213.add (((ji18)).toNat * 11)).off + 2,none⟩ = some (.int .i64 ((a_c l0_1 (ji18)).f2)) ∧ w'.cell? ⟨(ad213.add (((ji18)).toNat * 11)).block,(ad213.add (((ji18)).toNat * 11)).off + 3,none⟩ = some (.int .i64 ((a_c l0_1 (ji18)).f3)) ∧ w'.cell? ⟨(ad213.add (((ji18)).toNat * 11)).block,(ad213.add (((ji18)).toNat * 11)).off + 4,none⟩ = some (.int .i64 ((a_c l0_1 (ji18)).f4)) ∧ w'.cell? ⟨(ad213.add (((ji18)).toNat * 11)).block,(ad213.add (((ji18)).toNat * 11)).off + 5,none⟩ = some (.bool ((a_c l0_1 (ji18)).f5)) ∧ w'.cell? ⟨(ad213.add (((ji18)).toNat * 11)).block,(ad213.add (((ji18)).toNat * 11)).off + 6,none⟩ = some (.bool ((a_c l0_1 (ji18)).f6)) ∧ w'.cell? ⟨(ad213.add (((ji18)).toNat * 11)).block,(ad213.add (((ji18)).toNat * 11)).off + 7,none⟩ = some (.int .u32 ((a_c l0_1 (ji18)).f7)) ∧ w'.cell? ⟨(ad213.add (((ji18)).toNat * 11)).block,(ad213.add (((ji18)).toNat * 11)).off + 8,none⟩ = some (.int .i64 ((a_c l0_1 (ji18)).f8)) ∧ w'.cell? ⟨(ad213.add (((ji18)).toNat * 11)).block,(ad213.add (((ji18)).toNat * 11)).off + 9,none⟩ = some (.int .i64 ((a_c l0_1 (ji18)).f9)) ∧ w'.cell? ⟨(ad213.add (((ji18)).toNat * 11)).block,(ad213.add (((ji18)).toNat * 11)).off + 10,none⟩ = some (.int .i64 ((a_c l0_1 (ji18)).f10))) (ds:=[]) Z3_ (by kernel_rfl) rfl rfl ⟨(a_a a_M.out 0).trans rfl,(a_a a_M.out 1).trans rfl,(a_a a_M.out 2).trans rfl,(a_a a_M.out 3).trans rfl,(a_a a_M.out 4).trans rfl,(a_a a_M.out 5).trans rfl,(a_a a_M.out 6).trans rfl,(a_a a_M.out 7).trans rfl,(a_a a_M.out 8).trans rfl,(a_a a_M.out 9).trans rfl,(a_a a_M.out 10).trans rfl,(a_a b_s.out 0).trans rfl,(a_a b_s.out 1).trans rfl,((HB.out.cell (World.block_lt_of_cell? w _ l_b)).trans l_b),((HB.out.cell (World.block_lt_of_cell? w _ l_a)).trans l_a),((HB.out.cell (World.block_lt_of_cell? w _ k_9)).trans k_9),((HB.out.cell (World.block_lt_of_cell? w _ k_8)).trans k_8),((HB.out.cell (World.block_lt_of_cell? w _ k_7)).trans k_7),((HB.out.cell (World.block_lt_of_cell? w _ k_6)).trans k_6),((HB.out.cell (World.block_lt_of_cell? w _ k_5)).trans k_5),((HB.out.cell (World.block_lt_of_cell? w _ k_4)).trans k_4),((HB.out.cell (World.block_lt_of_cell? w _ k_3)).trans k_3),((HB.out.cell (World.block_lt_of_cell? w _ k_2)).trans k_2),((HB.out.cell (World.block_lt_of_cell? w _ i_O)).trans i_O)⟩ (fun hHeld => ?_);refine b_Q a_m.tab7 a_m.n_V (fun HT_ HW_ => ?_)
      generalize w21.drew = w22 at b_s a_M HB h_l h_m g_p h_n h_o h_p h_q h_r h_s h_t h_u hHeld ⊢
      refine b_m (i:=0) (N:=some 28) (v:=?_) (a':=?_) Z9_ rfl rfl (a_L HT_.out HW_.out (by kernel_rfl)) (fun _ _ _ h => h) (Or.inl ⟨by rfl,?_⟩) hHeld ?_ ?_
      rotate_left
      ·rintro w' ⟨s0,s1,s2,s3,s4,s5,s6,s7,s8,s9,s10,s11,s12,s13,s14,s15,s16,s17,s18,s19,s20,s21,s22,s23⟩
       go_simp
       with_reducible rfl
      rotate_left
      ·simp only [Act.put,sa_,sb_,sc_,a_r,a_s]
       rfl
      refine one_ (i:=1) (N:=some 29) Z16_ rfl rfl (c_e HT_.out (by kernel_rfl)) (by decide) (fun K hK => ?_)
      refine e_I Try.func54 (by kernel_rfl) rfl #[.agg #[.int .i64 ((a_c l0_1 x3_2).f0),.int .i64 ((a_c l0_1 x3_2).f1),.int .i64 ((a_c l0_1 x3_2).f2),.int .i64 ((a_c l0_1 x3_2).f3),.int .i64 ((a_c l0_1 x3_2).f4),.bool ((a_c l0_1 x3_2).f5),.bool ((a_c l0_1 x3_2).f6),.int .u32 ((a_c l0_1 x3_2).f7),.int .i64 ((a_c l0_1 x3_2).f8),.int .i64 ((a_c l0_1 x3_2).f9),.int .i64 ((a_c l0_1 x3_2).f10)]] (by rfl) rfl rfl (by (try simp only [List.map_toArray,List.map_cons,List.map_nil]);first|done|rfl|(simp only [List.length_drop,List.length_take];rfl)) ?_
      with_reducible refine (b_I.calls ((a_c l0_1 x3_2).f0) ((a_c l0_1 x3_2).f1) ((a_c l0_1 x3_2).f2) ((a_c l0_1 x3_2).f3) ((a_c l0_1 x3_2).f4) ((a_c l0_1 x3_2).f5) ((a_c l0_1 x3_2).f6) ((a_c l0_1 x3_2).f7) ((a_c l0_1 x3_2).f8) ((a_c l0_1 x3_2).f9) ((a_c l0_1 x3_2).f10) true _ A15.out).mono ?_
      rintro e w23 ⟨rfl,hb⟩
      refine ⟨_,rfl,?_⟩
      replace b_s:=a_e.mk (a_l (bup_ b_s.out) hb)
      replace a_M:=a_e.mk (a_l (bup_ a_M.out) hb)
      replace HB:=a_e.mk (a_t (by repeat (first|(with_reducible first|exact HB.out|apply a_g|apply a_f|apply a_h|refine a_d ?_ d_Y.out|refine a_d ?_ e_C.out)|exact HB.out)) hb)
      (try clear hb)
      (try clear hb2)
      (try clear hk)
      (try clear hi)
      refine hK.out _ _ ⟨(a_a a_M.out 0).trans rfl,(a_a a_M.out 1).trans rfl,(a_a a_M.out 2).trans rfl,(a_a a_M.out 3).trans rfl,(a_a a_M.out 4).trans rfl,(a_a a_M.out 5).trans rfl,(a_a a_M.out 6).trans rfl,(a_a a_M.out 7).trans rfl,(a_a a_M.out 8).trans rfl,(a_a a_M.out 9).trans rfl,(a_a a_M.out 10).trans rfl,(a_a b_s.out 0).trans rfl,(a_a b_s.out 1).trans rfl,((HB.out.cell (World.block_lt_of_cell? w _ l_b)).trans l_b),((HB.out.cell (World.block_lt_of_cell? w _ l_a)).trans l_a),((HB.out.cell (World.block_lt_of_cell? w _ k_9)).trans k_9),((HB.out.cell (World.block_lt_of_cell? w _ k_8)).trans k_8),((HB.out.cell (World.block_lt_of_cell? w _ k_7)).trans k_7),((HB.out.cell (World.block_lt_of_cell? w _ k_6)).trans k_6),((HB.out.cell (World.block_lt_of_cell? w _ k_5)).trans k_5),((HB.out.cell (World.block_lt_of_cell? w _ k_4)).trans k_4),((HB.out.cell (World.block_lt_of_cell? w _ k_3)).trans k_3),((HB.out.cell (World.block_lt_of_cell? w _ k_2)).trans k_2),((HB.out.cell (World.block_lt_of_cell? w _ i_O)).trans i_O)⟩ (fun hHeld => ?_)
      clear hK K
      refine d_U (a':=?_) ?_ ?_
      rotate_left
      ·show Act.put _ (some 29) _ = _
       simp only [Act.put,sa_,sb_,sc_,a_r,a_s]
       rfl
      refine a_y (i:=2) (N:=some 30) (v:=?_) (a':=?_) Z22_ rfl rfl (a_n HT_.out (by kernel_rfl)) (fun _ _ _ h => h) (Or.inl ⟨by rfl,?_⟩) ?_ ?_
      rotate_left
      ·intro w'
       go_simp
       with_reducible rfl
      rotate_left
      ·simp only [Act.put,sa_,sb_,sc_,a_r,a_s]
       rfl
      refine a_y (i:=3) (N:=some 31) (v:=?_) (a':=?_) Z27_ rfl rfl (a_n HT_.out (by kernel_rfl)) (fun _ _ _ h => h) (Or.inl ⟨by rfl,?_⟩) ?_ ?_
      rotate_left
      ·intro w'
       go_simp
       with_reducible rfl
      rotate_left
      ·simp only [Act.put,sa_,sb_,sc_,a_r,a_s]
       rfl
      refine a_y (i:=4) (N:=some 32) (v:=?_) (a':=?_) Z31_ rfl rfl (a_n HT_.out (by kernel_rfl)) (fun _ _ _ h => h) (Or.inl ⟨by rfl,?_⟩) ?_ ?_
      rotate_left
      ·intro w'
       go_simp
       with_reducible rfl
      rotate_left
      ·simp only [Act.put,sa_,sb_,sc_,a_r,a_s]
       rfl
      refine a_y (i:=5) (N:=some 33) (v:=?_) (a':=?_) Z35_ rfl rfl (a_n HT_.out (by kernel_rfl)) (fun _ _ _ h => h) (Or.inl ⟨by rfl,?_⟩) ?_ ?_
      rotate_left
      ·intro w'
       go_simp
       with_reducible rfl
      rotate_left
      ·simp only [Act.put,sa_,sb_,sc_,a_r,a_s]
       rfl
      refine a_y (i:=6) (N:=some 34) (v:=?_) (a':=?_) Z40_ rfl rfl (a_n HT_.out (by kernel_rfl)) (fun _ _ _ h => h) (Or.inl ⟨by rfl,?_⟩) ?_ ?_
      rotate_left
      ·intro w'
       go_simp
       with_reducible rfl
      rotate_left
      ·simp only [Act.put,sa_,sb_,sc_,a_r,a_s]
       rfl
      refine a_y (i:=7) (N:=some 35) (v:=?_) (a':=?_) Z46_ rfl rfl (a_n HT_.out (by kernel_rfl)) (fun _ _ _ h => h) (Or.inl ⟨by rfl,?_⟩) ?_ ?_
      rotate_left
      ·intro w'
       go_simp
       with_reducible rfl
      rotate_left
      ·simp only [Act.put,sa_,sb_,sc_,a_r,a_s]
       rfl
      refine a_y (i:=9) (N:=some 37) (v:=?_) (a':=?_) #[T_,T_,T_,T_,T_,T_,T_,T_,F_,T_,F_,F_,F_,F_,F_,F_,F_,F_,F_] rfl rfl (a_n HT_.out (by kernel_rfl)) (fun _ _ _ h => h) (Or.inl ⟨by rfl,?_⟩) ?_ ?_
      rotate_left
      ·intro w'
       go_simp
       with_reducible rfl
      rotate_left
      ·simp only [Act.put,sa_,sb_,sc_,a_r,a_s]
       rfl
      refine a_y (i:=10) (N:=some 38) (v:=?_) (a':=?_) #[T_,T_,T_,T_,T_,T_,T_,T_,F_,T_,T_,F_,F_,F_,F_,F_,F_,F_,F_] rfl rfl (a_n HT_.out (by kernel_rfl)) (fun _ _ _ h => h) (Or.inl ⟨by rfl,?_⟩) ?_ ?_
      rotate_left
      ·intro w'
       go_simp
       with_reducible rfl
      rotate_left
      ·simp only [Act.put,sa_,sb_,sc_,a_r,a_s]
       rfl
      refine a_y (i:=14) (N:=some 42) (v:=?_) (a':=?_) #[T_,T_,T_,T_,T_,T_,T_,T_,F_,T_,T_,F_,F_,F_,T_,F_,F_,F_,F_] rfl rfl (a_n HT_.out (by kernel_rfl)) (fun _ _ _ h => h) (Or.inl ⟨by rfl,?_⟩) ?_ ?_
      rotate_left
      ·intro w'
       go_simp
       with_reducible rfl
      rotate_left
      ·simp only [Act.put,sa_,sb_,sc_,a_r,a_s]
       rfl
      refine b_m (i:=8) (N:=some 36) (v:=?_) (a':=?_) #[T_,T_,T_,T_,T_,T_,T_,T_,T_,T_,T_,F_,F_,F_,T_,F_,F_,F_,F_] rfl rfl (a_L HT_.out HW_.out (by kernel_rfl)) (fun _ _ _ h => h) (Or.inl ⟨by rfl,?_⟩) hHeld ?_ ?_
      rotate_left
      ·rintro w' ⟨s0,s1,s2,s3,s4,s5,s6,s7,s8,s9,s10,s11,s12,s13,s14,s15,s16,s17,s18,s19,s20,s21,s22,s23⟩
       go_simp
       with_reducible rfl
      rotate_left
      ·simp only [Act.put,sa_,sb_,sc_,a_r,a_s]
       rfl
      refine a_y (i:=11) (N:=some 39) (v:=?_) (a':=?_) #[T_,T_,T_,T_,T_,T_,T_,T_,T_,T_,T_,T_,F_,F_,T_,F_,F_,F_,F_] rfl rfl (a_n HT_.out (by kernel_rfl)) (fun _ _ _ h => h) (Or.inl ⟨by rfl,?_⟩) ?_ ?_
      rotate_left
      ·intro w'
       go_simp
       with_reducible rfl
      rotate_left
      ·simp only [Act.put,sa_,sb_,sc_,a_r,a_s]
       rfl
      refine a_y (i:=12) (N:=some 40) (v:=?_) (a':=?_) #[T_,T_,T_,T_,T_,T_,T_,T_,T_,T_,T_,T_,T_,F_,T_,F_,F_,F_,F_] rfl rfl (a_n HT_.out (by kernel_rfl)) (fun _ _ _ h => h) (Or.inl ⟨by rfl,?_⟩) ?_ ?_
      rotate_left
      ·intro w'
       go_simp
       with_reducible rfl
      rotate_left
      ·simp only [Act.put,sa_,sb_,sc_,a_r,a_s]
       rfl
      refine b_m (i:=13) (N:=some 41) (v:=?_) (a':=?_) Z85_ rfl rfl (a_L HT_.out HW_.out (by kernel_rfl)) (fun _ _ _ h => h) (Or.inl ⟨by rfl,?_⟩) hHeld ?_ ?_
      rotate_left
      ·rintro w' ⟨s0,s1,s2,s3,s4,s5,s6,s7,s8,s9,s10,s11,s12,s13,s14,s15,s16,s17,s18,s19,s20,s21,s22,s23⟩
       go_simp
       with_reducible rfl
      rotate_left
      ·simp only [Act.put,sa_,sb_,sc_,a_r,a_s]
       rfl
      refine b_m (i:=15) (N:=some 43) (v:=?_) (a':=?_) Z92_ rfl rfl (a_L HT_.out HW_.out (by kernel_rfl)) (fun _ _ _ h => h) (Or.inl ⟨by rfl,?_⟩) hHeld ?_ ?_
      rotate_left
      ·rintro w' ⟨s0,s1,s2,s3,s4,s5,s6,s7,s8,s9,s10,s11,s12,s13,s14,s15,s16,s17,s18,s19,s20,s21,s22,s23⟩
       go_simp
       with_reducible rfl
      rotate_left
      ·simp only [Act.put,sa_,sb_,sc_,a_r,a_s]
       rfl
      refine a_y (i:=16) (N:=some 44) (v:=?_) (a':=?_) Z96_ rfl rfl (a_n HT_.out (by kernel_rfl)) (fun _ _ _ h => h) (Or.inl ⟨by rfl,?_⟩) ?_ ?_
      rotate_left
      ·intro w'
       go_simp
       with_reducible rfl
      rotate_left
      ·simp only [Act.put,sa_,sb_,sc_,a_r,a_s]
       rfl
      refine a_y (i:=17) (N:=some 45) (v:=?_) (a':=?_) s_m rfl rfl (a_n HT_.out (by kernel_rfl)) (fun _ _ _ h => h) (Or.inl ⟨by rfl,?_⟩) ?_ ?_
      rotate_left
      ·intro w'
       go_simp
       with_reducible rfl
      rotate_left
      ·simp only [Act.put,sa_,sb_,sc_,a_r,a_s]
       rfl
      refine a_y (i:=18) (N:=some 46) (v:=?_) (a':=?_) r_2 rfl rfl (a_n HT_.out (by kernel_rfl)) (fun _ _ _ h => h) (Or.inl ⟨by rfl,?_⟩) ?_ ?_
      rotate_left
      ·intro w'
       go_simp
       with_reducible rfl
      rotate_left
      ·simp only [Act.put,sa_,sb_,sc_,a_r,a_s]
       rfl
      refine e_T (c_u HT_.out (by kernel_rfl)) ?_
      try go_wp2
      go_meet
      case rel => exact ⟨_,(decide (((a_c l0_1 (ji18)).f0) ≥ ((a_c l0_1 x3_2).f0))),(by first|rfl|(simp;done)|(simp only [← hji18] <;> (first|rfl|simp))|(simp [*];done)),H',⟨by have:=HJ1.out;have:=HK2.out;first|omega|exact Nat.le_refl _⟩,⟨by (with_reducible repeat (first|refine a_j ?_ _|refine a_k ?_|refine a_i ?_ _));exact b_s.out⟩,⟨by (with_reducible repeat (first|refine a_j ?_ _|refine a_k ?_|refine a_i ?_ _));exact a_M.out⟩,⟨by repeat (first|(with_reducible first|exact HB.out|apply a_g|apply a_f|apply a_h|refine a_d ?_ d_Y.out|refine a_d ?_ e_C.out)|exact HB.out)⟩⟩
     case rest =>
      clear HC10
      try clear c1
      try clear c2
      try clear p2
      try clear q2
      try clear hx2
      try clear c5
      try clear p6
      try clear c13
      try clear c16
      try clear c17
      try clear c17b0
      try clear c19
      try clear c19b0
      try clear c20
      try clear c20b0
      try clear p21
      try clear q21
      try clear hx21
      try clear i_5
      try clear i_6
      try clear h_P
      try clear i_7
      try clear i_8
      try clear i_9
      try clear j_a
      try clear j_b
      try clear j_c
      try clear j_d
      try clear j_e
      try clear f_D
      try clear j_f
      try clear j_g
      try clear h_Q
      try clear j_h
      try clear j_i
      try clear j_j
      try clear j_k
      try clear j_l
      try clear j_m
      try clear j_n
      try clear j_o
      try clear j_A
      try clear j_B
      try clear h_Z
      try clear j_C
      try clear j_D
      try clear j_E
      try clear j_F
      try clear j_G
      try clear j_H
      try clear j_I
      try clear j_J
      try clear h_l
      try clear h_m
      try clear g_p
      try clear h_n
      try clear h_o
      try clear h_p
      try clear h_q
      try clear h_r
      try clear h_s
      try clear h_t
      try clear h_u
      try clear p213
      try clear p216
      try clear q213
      try clear q216
      obtain ⟨kq,x46_9,rfl,HA,HJ9,b_s,a_M,HB⟩:=hcut
      cases kq with
      | zero => exact absurd HA.out (by simp [a_m.j2])
      | succ kj9 =>
       have H:=HA.out
       clear HA
       simp only [a_m.j2] at H
       by_cases c30 : x46_9 = true
       ·subst c30
        have H1 : (some false) = some r:=by rw [if_pos rfl] at H;exact H
        clear H
        have H:=H1
        clear H1
        obtain rfl:=Option.some.inj H
        go_wp2
        go_ret
        exact ⟨by first|rfl|(simp [a_w,a_x] <;> rfl)|(simp [*, a_w,a_x] <;> rfl),by repeat (first|(with_reducible first|exact HB.out|apply a_g|apply a_f|apply a_h|refine a_d ?_ d_Y.out|refine a_d ?_ e_C.out)|exact HB.out)⟩
       replace c30:=Bool.eq_false_iff.mpr c30
       subst c30
       have H1 : (a_m.l1 kj9 x3_2 0 0 a0_0 l0_1 ((a_c l0_1 x3_2).f0) ((a_c l0_1 x3_2).f1) ((a_c l0_1 x3_2).f2) ((a_c l0_1 x3_2).f3) ((a_c l0_1 x3_2).f4) ((a_c l0_1 x3_2).f5) ((a_c l0_1 x3_2).f6) ((a_c l0_1 x3_2).f7) ((a_c l0_1 x3_2).f8) ((a_c l0_1 x3_2).f9) ((a_c l0_1 x3_2).f10)) = some r:=by rw [if_neg (show ¬ (false = true) by decide)] at H;exact H
       clear H
       have H:=H1
       clear H1
       have H':=a_e.mk H
       clear H
       go_wp2
       go_loopg [5,6] kj9 (fun kq v5 v6 w' => ∃ (x5_4 : Int) (x6_4 : Int),v5 = .int .i64 x5_4 ∧ v6 = .int .i64 x6_4 ∧ a_e (a_m.l1 kq x3_2 x5_4 x6_4 a0_0 l0_1 ((a_c l0_1 x3_2).f0) ((a_c l0_1 x3_2).f1) ((a_c l0_1 x3_2).f2) ((a_c l0_1 x3_2).f3) ((a_c l0_1 x3_2).f4) ((a_c l0_1 x3_2).f5) ((a_c l0_1 x3_2).f6) ((a_c l0_1 x3_2).f7) ((a_c l0_1 x3_2).f8) ((a_c l0_1 x3_2).f9) ((a_c l0_1 x3_2).f10) = some r) ∧ a_e (kq ≤ kj9) ∧ a_e (w'.heap[d_F]? = some (.cells #[.int .i64 a0_0,(.slice (some ad213) l0_1.length c0_1)] 27 (0,0))) ∧ a_e (w'.heap[a_T]? = some (.cells #[.int .i64 ((a_c l0_1 x3_2).f0),.int .i64 ((a_c l0_1 x3_2).f1),.int .i64 ((a_c l0_1 x3_2).f2),.int .i64 ((a_c l0_1 x3_2).f3),.int .i64 ((a_c l0_1 x3_2).f4),.bool ((a_c l0_1 x3_2).f5),.bool ((a_c l0_1 x3_2).f6),.int .u32 ((a_c l0_1 x3_2).f7),.int .i64 ((a_c l0_1 x3_2).f8),.int .i64 ((a_c l0_1 x3_2).f9),.int .i64 ((a_c l0_1 x3_2).f10)] 65 (0,0))) ∧ a_e (Below w.heap.size w w'))
       case atStart => exact ⟨(0),(0),(by first|rfl|(simp;done)|(simp [*];done)),(by first|rfl|(simp;done)|(simp [*];done)),H',⟨Nat.le_refl _⟩,⟨by (with_reducible repeat (first|refine a_j ?_ _|refine a_k ?_|refine a_i ?_ _));exact b_s.out⟩,⟨by (with_reducible repeat (first|refine a_j ?_ _|refine a_k ?_|refine a_i ?_ _));exact a_M.out⟩,⟨by repeat (first|(with_reducible first|exact HB.out|apply a_g|apply a_f|apply a_h|refine a_d ?_ d_Y.out|refine a_d ?_ e_C.out)|exact HB.out)⟩⟩
       case round =>
        clear H'
        try clear c1
        try clear c2
        try clear p2
        try clear q2
        try clear hx2
        try clear c3
        try clear c5
        try clear p6
        try clear c13
        try clear c16
        try clear c17
        try clear c17b0
        try clear c19
        try clear c19b0
        try clear c20
        try clear c20b0
        try clear p21
        try clear q21
        try clear hx21
        try clear c30
        try clear i_5
        try clear i_6
        try clear h_P
        try clear i_7
        try clear i_8
        try clear i_9
        try clear j_a
        try clear j_b
        try clear j_c
        try clear j_d
        try clear j_e
        try clear f_D
        try clear j_f
        try clear j_g
        try clear h_Q
        try clear j_h
        try clear j_i
        try clear j_j
        try clear j_k
        try clear j_l
        try clear j_m
        try clear j_n
        try clear j_o
        try clear j_A
        try clear j_B
        try clear h_Z
        try clear j_C
        try clear j_D
        try clear j_E
        try clear j_F
        try clear j_G
        try clear j_H
        try clear j_I
        try clear j_J
        try clear h_l
        try clear h_m
        try clear g_p
        try clear h_n
        try clear h_o
        try clear h_p
        try clear h_q
        try clear h_r
        try clear h_s
        try clear h_t
        try clear h_u
        try clear p2
        try clear p21
        try clear p213
        try clear p216
        try clear p6
        try clear q2
        try clear q21
        try clear q213
        try clear q216
        obtain ⟨x5_4,x6_4,rfl,rfl,HA,HK4,b_s,a_M,HB⟩:=hrel
        cases gk with
        | zero => exact absurd HA.out (by simp [a_m.l1])
        | succ k4 =>
         have H:=HA.out
         clear HA
         simp only [a_m.l1] at H
         by_cases c31 : x6_4 < (l0_1.length : Int)
         rotate_left
         ·rw [if_neg c31] at H
          have c31b0 : decide (x6_4 < (l0_1.length : Int)) = false:=decide_eq_false c31
          clear c31
          by_cases c72 : x5_4 = ((a_c l0_1 x3_2).f9)
          rotate_left
          ·rw [if_neg c72] at H
           have c72b0 : (x5_4 == ((a_c l0_1 x3_2).f9)) = false:=beq_eq_false_iff_ne.mpr c72
           have c72b1 : (x5_4 != ((a_c l0_1 x3_2).f9)) = true:=bne_iff_ne.mpr c72
           obtain rfl:=Option.some.inj H
           have w_s:=b_j.out
           have w_t:=f_n.out
           have t_o : wr.cell? ⟨d_F,0,none⟩ = some (.int .i64 a0_0):=(a_a b_s.out 0).trans rfl
           have t_p : wr.cell? ⟨d_F,1,none⟩ = some (.slice (some ad213) l0_1.length c0_1):=(a_a b_s.out 1).trans rfl
           have t_q:=a_b b_s.out 0
           have t_r:=a_b b_s.out 1
           have D_S : wr.cell? ⟨a_T,0,none⟩ = some (.int .i64 ((a_c l0_1 x3_2).f0)):=(a_a a_M.out 0).trans rfl
           have D_T : wr.cell? ⟨a_T,1,none⟩ = some (.int .i64 ((a_c l0_1 x3_2).f1)):=(a_a a_M.out 1).trans rfl
           have D_U : wr.cell? ⟨a_T,2,none⟩ = some (.int .i64 ((a_c l0_1 x3_2).f2)):=(a_a a_M.out 2).trans rfl
           have D_V : wr.cell? ⟨a_T,3,none⟩ = some (.int .i64 ((a_c l0_1 x3_2).f3)):=(a_a a_M.out 3).trans rfl
           have D_W : wr.cell? ⟨a_T,4,none⟩ = some (.int .i64 ((a_c l0_1 x3_2).f4)):=(a_a a_M.out 4).trans rfl
           have D_X : wr.cell? ⟨a_T,5,none⟩ = some (.bool ((a_c l0_1 x3_2).f5)):=(a_a a_M.out 5).trans rfl
           have D_Y : wr.cell? ⟨a_T,6,none⟩ = some (.bool ((a_c l0_1 x3_2).f6)):=(a_a a_M.out 6).trans rfl
           have D_Z : wr.cell? ⟨a_T,7,none⟩ = some (.int .u32 ((a_c l0_1 x3_2).f7)):=(a_a a_M.out 7).trans rfl
           have D_0 : wr.cell? ⟨a_T,8,none⟩ = some (.int .i64 ((a_c l0_1 x3_2).f8)):=(a_a a_M.out 8).trans rfl
           have D_1 : wr.cell? ⟨a_T,9,none⟩ = some (.int .i64 ((a_c l0_1 x3_2).f9)):=(a_a a_M.out 9).trans rfl
           have x_e : wr.cell? ⟨a_T,10,none⟩ = some (.int .i64 ((a_c l0_1 x3_2).f10)):=(a_a a_M.out 10).trans rfl
           have D_2:=a_b a_M.out 0
           have D_3:=a_b a_M.out 1
           have D_4:=a_b a_M.out 2
           have D_5:=a_b a_M.out 3
           have D_6:=a_b a_M.out 4
           have D_7:=a_b a_M.out 5
           have D_8:=a_b a_M.out 6
           have D_9:=a_b a_M.out 7
           have E_a:=a_b a_M.out 8
           have E_b:=a_b a_M.out 9
           have x_f:=a_b a_M.out 10
           go_wp2
           go_ret
           exact ⟨by first|rfl|(simp [a_w,a_x] <;> rfl)|(simp [*, a_w,a_x] <;> rfl),by repeat (first|(with_reducible first|exact HB.out|apply a_g|apply a_f|apply a_h|refine a_d ?_ d_Y.out|refine a_d ?_ e_C.out)|exact HB.out)⟩
          rw [if_pos c72] at H
          have c72b0 : (x5_4 == ((a_c l0_1 x3_2).f9)) = true:=beq_iff_eq.mpr c72
          have c72b1 : (x5_4 != ((a_c l0_1 x3_2).f9)) = false:=bne_eq_false_iff_eq.mpr c72
          clear c72
          have H':=a_e.mk H
          clear H
          have w_q:=b_j.out
          have w_r:=f_n.out
          have m_C : wr.cell? ⟨d_F,0,none⟩ = some (.int .i64 a0_0):=(a_a b_s.out 0).trans rfl
          have m_D : wr.cell? ⟨d_F,1,none⟩ = some (.slice (some ad213) l0_1.length c0_1):=(a_a b_s.out 1).trans rfl
          have m_E:=a_b b_s.out 0
          have m_F:=a_b b_s.out 1
          have E_c : wr.cell? ⟨a_T,0,none⟩ = some (.int .i64 ((a_c l0_1 x3_2).f0)):=(a_a a_M.out 0).trans rfl
          have E_d : wr.cell? ⟨a_T,1,none⟩ = some (.int .i64 ((a_c l0_1 x3_2).f1)):=(a_a a_M.out 1).trans rfl
          have E_e : wr.cell? ⟨a_T,2,none⟩ = some (.int .i64 ((a_c l0_1 x3_2).f2)):=(a_a a_M.out 2).trans rfl
          have E_f : wr.cell? ⟨a_T,3,none⟩ = some (.int .i64 ((a_c l0_1 x3_2).f3)):=(a_a a_M.out 3).trans rfl
          have E_g : wr.cell? ⟨a_T,4,none⟩ = some (.int .i64 ((a_c l0_1 x3_2).f4)):=(a_a a_M.out 4).trans rfl
          have E_h : wr.cell? ⟨a_T,5,none⟩ = some (.bool ((a_c l0_1 x3_2).f5)):=(a_a a_M.out 5).trans rfl
          have E_i : wr.cell? ⟨a_T,6,none⟩ = some (.bool ((a_c l0_1 x3_2).f6)):=(a_a a_M.out 6).trans rfl
          have E_j : wr.cell? ⟨a_T,7,none⟩ = some (.int .u32 ((a_c l0_1 x3_2).f7)):=(a_a a_M.out 7).trans rfl
          have E_k : wr.cell? ⟨a_T,8,none⟩ = some (.int .i64 ((a_c l0_1 x3_2).f8)):=(a_a a_M.out 8).trans rfl
          have E_l : wr.cell? ⟨a_T,9,none⟩ = some (.int .i64 ((a_c l0_1 x3_2).f9)):=(a_a a_M.out 9).trans rfl
          have x_g : wr.cell? ⟨a_T,10,none⟩ = some (.int .i64 ((a_c l0_1 x3_2).f10)):=(a_a a_M.out 10).trans rfl
          have E_m:=a_b a_M.out 0
          have E_n:=a_b a_M.out 1
          have E_o:=a_b a_M.out 2
          have E_p:=a_b a_M.out 3
          have E_q:=a_b a_M.out 4
          have E_r:=a_b a_M.out 5
          have E_s:=a_b a_M.out 6
          have E_t:=a_b a_M.out 7
          have E_u:=a_b a_M.out 8
          have E_v:=a_b a_M.out 9
          have x_h:=a_b a_M.out 10
          go_wp2
          go_roundg k4
          case measure => have:=HJ1.out;have:=HK2.out;have:=HJ9.out;have:=HK4.out;omega
          case rel => exact ⟨(wrap64 (x3_2 + 1)),(by first|rfl|(simp;done)|(simp [*];done)),H',⟨by have:=HJ1.out;have:=HK2.out;have:=HJ9.out;have:=HK4.out;omega⟩,⟨by (with_reducible repeat (first|refine a_j ?_ _|refine a_k ?_|refine a_i ?_ _));exact b_s.out⟩,⟨by repeat (first|(with_reducible first|exact HB.out|apply a_g|apply a_f|apply a_h|refine a_d ?_ d_Y.out|refine a_d ?_ e_C.out)|exact HB.out)⟩⟩
         rw [if_pos c31] at H
         have c31b0 : decide (x6_4 < (l0_1.length : Int)) = true:=decide_eq_true c31
         clear c31
         by_cases c32 : 0 ≤ x6_4
         rotate_left
         ·rw [if_neg c32] at H
          exact absurd H (by simp)
         rw [if_pos c32] at H
         have c32b0 : decide (0 ≤ x6_4) = true:=decide_eq_true c32
         clear c32
         by_cases c33 : ((a_c l0_1 x6_4).f1) = ((a_c l0_1 x3_2).f1)
         rotate_left
         ·rw [if_neg c33] at H
          have c33b0 : (((a_c l0_1 x6_4).f1) == ((a_c l0_1 x3_2).f1)) = false:=beq_eq_false_iff_ne.mpr c33
          have c33b1 : (((a_c l0_1 x6_4).f1) != ((a_c l0_1 x3_2).f1)) = true:=bne_iff_ne.mpr c33
          have H':=a_e.mk H
          clear H
          have E_w:=b_j.out
          have E_x:=f_n.out
          have u_u : wr.cell? ⟨d_F,0,none⟩ = some (.int .i64 a0_0):=(a_a b_s.out 0).trans rfl
          have u_v : wr.cell? ⟨d_F,1,none⟩ = some (.slice (some ad213) l0_1.length c0_1):=(a_a b_s.out 1).trans rfl
          have u_w:=a_b b_s.out 0
          have u_x:=a_b b_s.out 1
          have p217 : 0 ≤ (x6_4 : Int):=of_decide_eq_true (by first|(with_reducible assumption)|assumption)
          have q217 : x6_4 < (l0_1.length : Int):=of_decide_eq_true (by first|(with_reducible assumption)|assumption)
          obtain ⟨ad217,e217,d_4,d_5,d_6,d_7,d_8,d_9,e_a,e_b,e_c,e_d,d_d⟩:=e_h e_o.out x6_4 p217 q217
          obtain rfl : ad213 = ad217:=(by injection e217)
          replace d_4:=(HB.out.cell (World.block_lt_of_cell? w _ d_4)).trans d_4
          replace d_5:=(HB.out.cell (World.block_lt_of_cell? w _ d_5)).trans d_5
          replace d_6:=(HB.out.cell (World.block_lt_of_cell? w _ d_6)).trans d_6
          replace d_7:=(HB.out.cell (World.block_lt_of_cell? w _ d_7)).trans d_7
          replace d_8:=(HB.out.cell (World.block_lt_of_cell? w _ d_8)).trans d_8
          replace d_9:=(HB.out.cell (World.block_lt_of_cell? w _ d_9)).trans d_9
          replace e_a:=(HB.out.cell (World.block_lt_of_cell? w _ e_a)).trans e_a
          replace e_b:=(HB.out.cell (World.block_lt_of_cell? w _ e_b)).trans e_b
          replace e_c:=(HB.out.cell (World.block_lt_of_cell? w _ e_c)).trans e_c
          replace e_d:=(HB.out.cell (World.block_lt_of_cell? w _ e_d)).trans e_d
          replace d_d:=(HB.out.cell (World.block_lt_of_cell? w _ d_d)).trans d_d
          replace p217:=eq_true p217
          replace q217:=eq_true q217
          go_wp2_with (first|((with_reducible refine a_U (N:=7) rfl ?_);refine a_H ?hg (N:=7) ?hd (cs:=#[.int .i64 0,.int .i64 0,.int .i64 0,.int .i64 0,.int .i64 0,.bool false,.bool false,.int .u32 0,.int .i64 0,.int .i64 0,.int .i64 0]) (t:=65) ?hr ?_;(case hd => rfl);(case hg => rfl);(case hr => first|(go_simp;done)|(go_simp;rfl));intro b_S hg w67 hbox hb;have b_r:=a_e.mk (hbox);have r_A:=a_e.mk ((by rw [hg];exact (a_p (by repeat (first|(with_reducible first|exact HB.out|apply a_g|apply a_f|apply a_h|refine a_d ?_ d_Y.out|refine a_d ?_ e_C.out)|exact HB.out))) : w.heap.size ≤ b_S));have l_d:=a_e.mk ((by rw [hg];exact (a_p (by repeat (first|(with_reducible first|exact HB.out|apply a_g|apply a_f|apply a_h|refine a_d ?_ d_Y.out|refine a_d ?_ e_C.out)|exact HB.out))) : w.heap.size ≤ b_S));have b_F:=a_e.mk ((by rw [hg];exact Nat.ne_of_lt (a_N (bup_ b_s.out)) : d_F ≠ b_S));have e_Y:=a_e.mk ((by rw [hg];exact Nat.ne_of_gt (a_N (bup_ b_s.out)) : b_S ≠ d_F));have b_G:=a_e.mk ((by rw [hg];exact Nat.ne_of_lt (a_N (bup_ a_M.out)) : a_T ≠ b_S));have e_Z:=a_e.mk ((by rw [hg];exact Nat.ne_of_gt (a_N (bup_ a_M.out)) : b_S ≠ a_T));replace b_s:=a_e.mk (a_l (bup_ b_s.out) hb);replace a_M:=a_e.mk (a_l (bup_ a_M.out) hb);replace HB:=a_e.mk (a_t (by repeat (first|(with_reducible first|exact HB.out|apply a_g|apply a_f|apply a_h|refine a_d ?_ d_Y.out|refine a_d ?_ e_C.out)|exact HB.out)) hb);clear hb hbox hg;have E_y:=e_Y.out;have E_z:=b_F.out;have E_A:=e_Z.out;have E_B:=b_G.out;have E_C : w67.cell? ⟨b_S,0,none⟩ = some (.int .i64 0):=(a_a b_r.out 0).trans rfl;have E_D : w67.cell? ⟨b_S,1,none⟩ = some (.int .i64 0):=(a_a b_r.out 1).trans rfl;have E_E : w67.cell? ⟨b_S,2,none⟩ = some (.int .i64 0):=(a_a b_r.out 2).trans rfl;have E_F : w67.cell? ⟨b_S,3,none⟩ = some (.int .i64 0):=(a_a b_r.out 3).trans rfl;have E_G : w67.cell? ⟨b_S,4,none⟩ = some (.int .i64 0):=(a_a b_r.out 4).trans rfl;have E_H : w67.cell? ⟨b_S,5,none⟩ = some (.bool false):=(a_a b_r.out 5).trans rfl;have E_I : w67.cell? ⟨b_S,6,none⟩ = some (.bool false):=(a_a b_r.out 6).trans rfl;have E_J : w67.cell? ⟨b_S,7,none⟩ = some (.int .u32 0):=(a_a b_r.out 7).trans rfl;have E_K : w67.cell? ⟨b_S,8,none⟩ = some (.int .i64 0):=(a_a b_r.out 8).trans rfl;have E_L : w67.cell? ⟨b_S,9,none⟩ = some (.int .i64 0):=(a_a b_r.out 9).trans rfl;have x_i : w67.cell? ⟨b_S,10,none⟩ = some (.int .i64 0):=(a_a b_r.out 10).trans rfl;have E_M:=a_b b_r.out 0;have E_N:=a_b b_r.out 1;have E_O:=a_b b_r.out 2;have E_P:=a_b b_r.out 3;have E_Q:=a_b b_r.out 4;have E_R:=a_b b_r.out 5;have E_S:=a_b b_r.out 6;have E_T:=a_b b_r.out 7;have E_U:=a_b b_r.out 8;have E_V:=a_b b_r.out 9;have x_j:=a_b b_r.out 10;have E_W : w67.cell? ⟨a_T,0,none⟩ = some (.int .i64 ((a_c l0_1 x3_2).f0)):=(a_a a_M.out 0).trans rfl;have E_X : w67.cell? ⟨a_T,1,none⟩ = some (.int .i64 ((a_c l0_1 x3_2).f1)):=(a_a a_M.out 1).trans rfl;have E_Y : w67.cell? ⟨a_T,2,none⟩ = some (.int .i64 ((a_c l0_1 x3_2).f2)):=(a_a a_M.out 2).trans rfl;have E_Z : w67.cell? ⟨a_T,3,none⟩ = some (.int .i64 ((a_c l0_1 x3_2).f3)):=(a_a a_M.out 3).trans rfl;have E_0 : w67.cell? ⟨a_T,4,none⟩ = some (.int .i64 ((a_c l0_1 x3_2).f4)):=(a_a a_M.out 4).trans rfl;have E_1 : w67.cell? ⟨a_T,5,none⟩ = some (.bool ((a_c l0_1 x3_2).f5)):=(a_a a_M.out 5).trans rfl;have E_2 : w67.cell? ⟨a_T,6,none⟩ = some (.bool ((a_c l0_1 x3_2).f6)):=(a_a a_M.out 6).trans rfl;have E_3 : w67.cell? ⟨a_T,7,none⟩ = some (.int .u32 ((a_c l0_1 x3_2).f7)):=(a_a a_M.out 7).trans rfl;have E_4 : w67.cell? ⟨a_T,8,none⟩ = some (.int .i64 ((a_c l0_1 x3_2).f8)):=(a_a a_M.out 8).trans rfl;have E_5 : w67.cell? ⟨a_T,9,none⟩ = some (.int .i64 ((a_c l0_1 x3_2).f9)):=(a_a a_M.out 9).trans rfl;have x_k : w67.cell? ⟨a_T,10,none⟩ = some (.int .i64 ((a_c l0_1 x3_2).f10)):=(a_a a_M.out 10).trans rfl;have E_6:=a_b a_M.out 0;have E_7:=a_b a_M.out 1;have E_8:=a_b a_M.out 2;have E_9:=a_b a_M.out 3;have F_a:=a_b a_M.out 4;have F_b:=a_b a_M.out 5;have F_c:=a_b a_M.out 6;have F_d:=a_b a_M.out 7;have F_e:=a_b a_M.out 8;have F_f:=a_b a_M.out 9;have x_l:=a_b a_M.out 10))
          go_roundg k4
          case measure => have:=HJ1.out;have:=HK2.out;have:=HJ9.out;have:=HK4.out;omega
          case rel => exact ⟨(x5_4),(wrap64 (x6_4 + 1)),(by first|rfl|(simp;done)|(simp [*];done)),(by first|rfl|(simp;done)|(simp [*];done)),H',⟨by have:=HJ1.out;have:=HK2.out;have:=HJ9.out;have:=HK4.out;omega⟩,⟨by (with_reducible repeat (first|refine a_j ?_ _|refine a_k ?_|refine a_i ?_ _));refine a_B ?_ b_F.out _;(with_reducible repeat (first|refine a_j ?_ _|refine a_k ?_|refine a_i ?_ _));refine a_B ?_ b_F.out _;(with_reducible repeat (first|refine a_j ?_ _|refine a_k ?_|refine a_i ?_ _));refine a_B ?_ b_F.out _;(with_reducible repeat (first|refine a_j ?_ _|refine a_k ?_|refine a_i ?_ _));refine a_B ?_ b_F.out _;(with_reducible repeat (first|refine a_j ?_ _|refine a_k ?_|refine a_i ?_ _));refine a_B ?_ b_F.out _;(with_reducible repeat (first|refine a_j ?_ _|refine a_k ?_|refine a_i ?_ _));refine a_B ?_ b_F.out _;(with_reducible repeat (first|refine a_j ?_ _|refine a_k ?_|refine a_i ?_ _));refine a_B ?_ b_F.out _;(with_reducible repeat (first|refine a_j ?_ _|refine a_k ?_|refine a_i ?_ _));refine a_B ?_ b_F.out _;(with_reducible repeat (first|refine a_j ?_ _|refine a_k ?_|refine a_i ?_ _));refine a_B ?_ b_F.out _;(with_reducible repeat (first|refine a_j ?_ _|refine a_k ?_|refine a_i ?_ _));refine a_B ?_ b_F.out _;(with_reducible repeat (first|refine a_j ?_ _|refine a_k ?_|refine a_i ?_ _));refine a_B ?_ b_F.out _;(with_reducible repeat (first|refine a_j ?_ _|refine a_k ?_|refine a_i ?_ _));exact b_s.out⟩,⟨by (with_reducible repeat (first|refine a_j ?_ _|refine a_k ?_|refine a_i ?_ _));refine a_B ?_ b_G.out _;(with_reducible repeat (first|refine a_j ?_ _|refine a_k ?_|refine a_i ?_ _));refine a_B ?_ b_G.out _;(with_reducible repeat (first|refine a_j ?_ _|refine a_k ?_|refine a_i ?_ _));refine a_B ?_ b_G.out _;(with_reducible repeat (first|refine a_j ?_ _|refine a_k ?_|refine a_i ?_ _));refine a_B ?_ b_G.out _;(with_reducible repeat (first|refine a_j ?_ _|refine a_k ?_|refine a_i ?_ _));refine a_B ?_ b_G.out _;(with_reducible repeat (first|refine a_j ?_ _|refine a_k ?_|refine a_i ?_ _));refine a_B ?_ b_G.out _;(with_reducible repeat (first|refine a_j ?_ _|refine a_k ?_|refine a_i ?_ _));refine a_B ?_ b_G.out _;(with_reducible repeat (first|refine a_j ?_ _|refine a_k ?_|refine a_i ?_ _));refine a_B ?_ b_G.out _;(with_reducible repeat (first|refine a_j ?_ _|refine a_k ?_|refine a_i ?_ _));refine a_B ?_ b_G.out _;(with_reducible repeat (first|refine a_j ?_ _|refine a_k ?_|refine a_i ?_ _));refine a_B ?_ b_G.out _;(with_reducible repeat (first|refine a_j ?_ _|refine a_k ?_|refine a_i ?_ _));refine a_B ?_ b_G.out _;(with_reducible repeat (first|refine a_j ?_ _|refine a_k ?_|refine a_i ?_ _));exact a_M.out⟩,⟨by repeat (first|(with_reducible first|exact HB.out|apply a_g|apply a_f|apply a_h|refine a_d ?_ d_Y.out|refine a_d ?_ e_C.out|refine a_d ?_ l_d.out)|exact HB.out)⟩⟩
         rw [if_pos c33] at H
         have c33b0 : (((a_c l0_1 x6_4).f1) == ((a_c l0_1 x3_2).f1)) = true:=beq_iff_eq.mpr c33
         have c33b1 : (((a_c l0_1 x6_4).f1) != ((a_c l0_1 x3_2).f1)) = false:=bne_eq_false_iff_eq.mpr c33
         clear c33
         by_cases c34 : ((a_c l0_1 x6_4).f8) = ((a_c l0_1 x3_2).f8)
         rotate_left
         ·rw [if_neg c34] at H
          have c34b0 : (((a_c l0_1 x6_4).f8) == ((a_c l0_1 x3_2).f8)) = false:=beq_eq_false_iff_ne.mpr c34
          have c34b1 : (((a_c l0_1 x6_4).f8) != ((a_c l0_1 x3_2).f8)) = true:=bne_iff_ne.mpr c34
          obtain rfl:=Option.some.inj H
          have O_s:=b_j.out
          have O_t:=f_n.out
          have F_g : wr.cell? ⟨d_F,0,none⟩ = some (.int .i64 a0_0):=(a_a b_s.out 0).trans rfl
          have F_h : wr.cell? ⟨d_F,1,none⟩ = some (.slice (some ad213) l0_1.length c0_1):=(a_a b_s.out 1).trans rfl
          have F_i:=a_b b_s.out 0
          have F_j:=a_b b_s.out 1
          have p217 : 0 ≤ (x6_4 : Int):=of_decide_eq_true (by first|(with_reducible assumption)|assumption)
          have q217 : x6_4 < (l0_1.length : Int):=of_decide_eq_true (by first|(with_reducible assumption)|assumption)
          obtain ⟨ad217,e217,d_4,d_5,d_6,d_7,d_8,d_9,e_a,e_b,e_c,e_d,d_d⟩:=e_h e_o.out x6_4 p217 q217
          obtain rfl : ad213 = ad217:=(by injection e217)
          replace d_4:=(HB.out.cell (World.block_lt_of_cell? w _ d_4)).trans d_4
          replace d_5:=(HB.out.cell (World.block_lt_of_cell? w _ d_5)).trans d_5
          replace d_6:=(HB.out.cell (World.block_lt_of_cell? w _ d_6)).trans d_6
          replace d_7:=(HB.out.cell (World.block_lt_of_cell? w _ d_7)).trans d_7
          replace d_8:=(HB.out.cell (World.block_lt_of_cell? w _ d_8)).trans d_8
          replace d_9:=(HB.out.cell (World.block_lt_of_cell? w _ d_9)).trans d_9
          replace e_a:=(HB.out.cell (World.block_lt_of_cell? w _ e_a)).trans e_a
          replace e_b:=(HB.out.cell (World.block_lt_of_cell? w _ e_b)).trans e_b
          replace e_c:=(HB.out.cell (World.block_lt_of_cell? w _ e_c)).trans e_c
          replace e_d:=(HB.out.cell (World.block_lt_of_cell? w _ e_d)).trans e_d
          replace d_d:=(HB.out.cell (World.block_lt_of_cell? w _ d_d)).trans d_d
          replace p217:=eq_true p217
          replace q217:=eq_true q217
          go_wp2_with (first|((with_reducible refine a_U (N:=7) rfl ?_);refine a_H ?hg (N:=7) ?hd (cs:=#[.int .i64 0,.int .i64 0,.int .i64 0,.int .i64 0,.int .i64 0,.bool false,.bool false,.int .u32 0,.int .i64 0,.int .i64 0,.int .i64 0]) (t:=65) ?hr ?_;(case hd => rfl);(case hg => rfl);(case hr => first|(go_simp;done)|(go_simp;rfl));intro b_S hg w60 hbox hb;have b_r:=a_e.mk (hbox);have r_A:=a_e.mk ((by rw [hg];exact (a_p (by repeat (first|(with_reducible first|exact HB.out|apply a_g|apply a_f|apply a_h|refine a_d ?_ d_Y.out|refine a_d ?_ e_C.out)|exact HB.out))) : w.heap.size ≤ b_S));have l_d:=a_e.mk ((by rw [hg];exact (a_p (by repeat (first|(with_reducible first|exact HB.out|apply a_g|apply a_f|apply a_h|refine a_d ?_ d_Y.out|refine a_d ?_ e_C.out)|exact HB.out))) : w.heap.size ≤ b_S));have b_F:=a_e.mk ((by rw [hg];exact Nat.ne_of_lt (a_N (bup_ b_s.out)) : d_F ≠ b_S));have e_Y:=a_e.mk ((by rw [hg];exact Nat.ne_of_gt (a_N (bup_ b_s.out)) : b_S ≠ d_F));have b_G:=a_e.mk ((by rw [hg];exact Nat.ne_of_lt (a_N (bup_ a_M.out)) : a_T ≠ b_S));have e_Z:=a_e.mk ((by rw [hg];exact Nat.ne_of_gt (a_N (bup_ a_M.out)) : b_S ≠ a_T));replace b_s:=a_e.mk (a_l (bup_ b_s.out) hb);replace a_M:=a_e.mk (a_l (bup_ a_M.out) hb);replace HB:=a_e.mk (a_t (by repeat (first|(with_reducible first|exact HB.out|apply a_g|apply a_f|apply a_h|refine a_d ?_ d_Y.out|refine a_d ?_ e_C.out)|exact HB.out)) hb);clear hb hbox hg;have w_w:=e_Y.out;have w_x:=b_F.out;have F_k:=e_Z.out;have F_l:=b_G.out;have F_m : w60.cell? ⟨b_S,0,none⟩ = some (.int .i64 0):=(a_a b_r.out 0).trans rfl;have F_n : w60.cell? ⟨b_S,1,none⟩ = some (.int .i64 0):=(a_a b_r.out 1).trans rfl;have F_o : w60.cell? ⟨b_S,2,none⟩ = some (.int .i64 0):=(a_a b_r.out 2).trans rfl;have F_p : w60.cell? ⟨b_S,3,none⟩ = some (.int .i64 0):=(a_a b_r.out 3).trans rfl;have F_q : w60.cell? ⟨b_S,4,none⟩ = some (.int .i64 0):=(a_a b_r.out 4).trans rfl;have F_r : w60.cell? ⟨b_S,5,none⟩ = some (.bool false):=(a_a b_r.out 5).trans rfl;have F_s : w60.cell? ⟨b_S,6,none⟩ = some (.bool false):=(a_a b_r.out 6).trans rfl;have F_t : w60.cell? ⟨b_S,7,none⟩ = some (.int .u32 0):=(a_a b_r.out 7).trans rfl;have F_u : w60.cell? ⟨b_S,8,none⟩ = some (.int .i64 0):=(a_a b_r.out 8).trans rfl;have F_v : w60.cell? ⟨b_S,9,none⟩ = some (.int .i64 0):=(a_a b_r.out 9).trans rfl;have x_m : w60.cell? ⟨b_S,10,none⟩ = some (.int .i64 0):=(a_a b_r.out 10).trans rfl;have F_w:=a_b b_r.out 0;have F_x:=a_b b_r.out 1;have F_y:=a_b b_r.out 2;have F_z:=a_b b_r.out 3;have F_A:=a_b b_r.out 4;have F_B:=a_b b_r.out 5;have F_C:=a_b b_r.out 6;have F_D:=a_b b_r.out 7;have F_E:=a_b b_r.out 8;have F_F:=a_b b_r.out 9;have x_n:=a_b b_r.out 10;have q_f : w60.cell? ⟨a_T,0,none⟩ = some (.int .i64 ((a_c l0_1 x3_2).f0)):=(a_a a_M.out 0).trans rfl;have q_g : w60.cell? ⟨a_T,1,none⟩ = some (.int .i64 ((a_c l0_1 x3_2).f1)):=(a_a a_M.out 1).trans rfl;have F_G : w60.cell? ⟨a_T,2,none⟩ = some (.int .i64 ((a_c l0_1 x3_2).f2)):=(a_a a_M.out 2).trans rfl;have F_H : w60.cell? ⟨a_T,3,none⟩ = some (.int .i64 ((a_c l0_1 x3_2).f3)):=(a_a a_M.out 3).trans rfl;have F_I : w60.cell? ⟨a_T,4,none⟩ = some (.int .i64 ((a_c l0_1 x3_2).f4)):=(a_a a_M.out 4).trans rfl;have F_J : w60.cell? ⟨a_T,5,none⟩ = some (.bool ((a_c l0_1 x3_2).f5)):=(a_a a_M.out 5).trans rfl;have F_K : w60.cell? ⟨a_T,6,none⟩ = some (.bool ((a_c l0_1 x3_2).f6)):=(a_a a_M.out 6).trans rfl;have F_L : w60.cell? ⟨a_T,7,none⟩ = some (.int .u32 ((a_c l0_1 x3_2).f7)):=(a_a a_M.out 7).trans rfl;have F_M : w60.cell? ⟨a_T,8,none⟩ = some (.int .i64 ((a_c l0_1 x3_2).f8)):=(a_a a_M.out 8).trans rfl;have F_N : w60.cell? ⟨a_T,9,none⟩ = some (.int .i64 ((a_c l0_1 x3_2).f9)):=(a_a a_M.out 9).trans rfl;have x_o : w60.cell? ⟨a_T,10,none⟩ = some (.int .i64 ((a_c l0_1 x3_2).f10)):=(a_a a_M.out 10).trans rfl;have q_h:=a_b a_M.out 0;have q_i:=a_b a_M.out 1;have F_O:=a_b a_M.out 2;have F_P:=a_b a_M.out 3;have F_Q:=a_b a_M.out 4;have F_R:=a_b a_M.out 5;have F_S:=a_b a_M.out 6;have F_T:=a_b a_M.out 7;have F_U:=a_b a_M.out 8;have F_V:=a_b a_M.out 9;have x_p:=a_b a_M.out 10))
          go_ret
          exact ⟨by first|rfl|(simp [a_w,a_x] <;> rfl)|(simp [*, a_w,a_x] <;> rfl),by repeat (first|(with_reducible first|exact HB.out|apply a_g|apply a_f|apply a_h|refine a_d ?_ d_Y.out|refine a_d ?_ e_C.out|refine a_d ?_ l_d.out)|exact HB.out)⟩
         rw [if_pos c34] at H
         have c34b0 : (((a_c l0_1 x6_4).f8) == ((a_c l0_1 x3_2).f8)) = true:=beq_iff_eq.mpr c34
         have c34b1 : (((a_c l0_1 x6_4).f8) != ((a_c l0_1 x3_2).f8)) = false:=bne_eq_false_iff_eq.mpr c34
         clear c34
         by_cases c35 : ((a_c l0_1 x6_4).f9) = ((a_c l0_1 x3_2).f9)
         rotate_left
         ·rw [if_neg c35] at H
          have c35b0 : (((a_c l0_1 x6_4).f9) == ((a_c l0_1 x3_2).f9)) = false:=beq_eq_false_iff_ne.mpr c35
          have c35b1 : (((a_c l0_1 x6_4).f9) != ((a_c l0_1 x3_2).f9)) = true:=bne_iff_ne.mpr c35
          obtain rfl:=Option.some.inj H
          have F_W:=b_j.out
          have F_X:=f_n.out
          have m_3 : wr.cell? ⟨d_F,0,none⟩ = some (.int .i64 a0_0):=(a_a b_s.out 0).trans rfl
          have m_4 : wr.cell? ⟨d_F,1,none⟩ = some (.slice (some ad213) l0_1.length c0_1):=(a_a b_s.out 1).trans rfl
          have m_5:=a_b b_s.out 0
          have m_6:=a_b b_s.out 1
          have p217 : 0 ≤ (x6_4 : Int):=of_decide_eq_true (by first|(with_reducible assumption)|assumption)
          have q217 : x6_4 < (l0_1.length : Int):=of_decide_eq_true (by first|(with_reducible assumption)|assumption)
          obtain ⟨ad217,e217,d_4,d_5,d_6,d_7,d_8,d_9,e_a,e_b,e_c,e_d,d_d⟩:=e_h e_o.out x6_4 p217 q217
          obtain rfl : ad213 = ad217:=(by injection e217)
          replace d_4:=(HB.out.cell (World.block_lt_of_cell? w _ d_4)).trans d_4
          replace d_5:=(HB.out.cell (World.block_lt_of_cell? w _ d_5)).trans d_5
          replace d_6:=(HB.out.cell (World.block_lt_of_cell? w _ d_6)).trans d_6
          replace d_7:=(HB.out.cell (World.block_lt_of_cell? w _ d_7)).trans d_7
          replace d_8:=(HB.out.cell (World.block_lt_of_cell? w _ d_8)).trans d_8
          replace d_9:=(HB.out.cell (World.block_lt_of_cell? w _ d_9)).trans d_9
          replace e_a:=(HB.out.cell (World.block_lt_of_cell? w _ e_a)).trans e_a
          replace e_b:=(HB.out.cell (World.block_lt_of_cell? w _ e_b)).trans e_b
          replace e_c:=(HB.out.cell (World.block_lt_of_cell? w _ e_c)).trans e_c
          replace e_d:=(HB.out.cell (World.block_lt_of_cell? w _ e_d)).trans e_d
          replace d_d:=(HB.out.cell (World.block_lt_of_cell? w _ d_d)).trans d_d
          replace p217:=eq_true p217
          replace q217:=eq_true q217
          go_wp2_with (first|((with_reducible refine a_U (N:=7) rfl ?_);refine a_H ?hg (N:=7) ?hd (cs:=#[.int .i64 0,.int .i64 0,.int .i64 0,.int .i64 0,.int .i64 0,.bool false,.bool false,.int .u32 0,.int .i64 0,.int .i64 0,.int .i64 0]) (t:=65) ?hr ?_;(case hd => rfl);(case hg => rfl);(case hr => first|(go_simp;done)|(go_simp;rfl));intro b_S hg w53 hbox hb;have b_r:=a_e.mk (hbox);have r_A:=a_e.mk ((by rw [hg];exact (a_p (by repeat (first|(with_reducible first|exact HB.out|apply a_g|apply a_f|apply a_h|refine a_d ?_ d_Y.out|refine a_d ?_ e_C.out)|exact HB.out))) : w.heap.size ≤ b_S));have l_d:=a_e.mk ((by rw [hg];exact (a_p (by repeat (first|(with_reducible first|exact HB.out|apply a_g|apply a_f|apply a_h|refine a_d ?_ d_Y.out|refine a_d ?_ e_C.out)|exact HB.out))) : w.heap.size ≤ b_S));have b_F:=a_e.mk ((by rw [hg];exact Nat.ne_of_lt (a_N (bup_ b_s.out)) : d_F ≠ b_S));have e_Y:=a_e.mk ((by rw [hg];exact Nat.ne_of_gt (a_N (bup_ b_s.out)) : b_S ≠ d_F));have b_G:=a_e.mk ((by rw [hg];exact Nat.ne_of_lt (a_N (bup_ a_M.out)) : a_T ≠ b_S));have e_Z:=a_e.mk ((by rw [hg];exact Nat.ne_of_gt (a_N (bup_ a_M.out)) : b_S ≠ a_T));replace b_s:=a_e.mk (a_l (bup_ b_s.out) hb);replace a_M:=a_e.mk (a_l (bup_ a_M.out) hb);replace HB:=a_e.mk (a_t (by repeat (first|(with_reducible first|exact HB.out|apply a_g|apply a_f|apply a_h|refine a_d ?_ d_Y.out|refine a_d ?_ e_C.out)|exact HB.out)) hb);clear hb hbox hg;have O_u:=e_Y.out;have O_v:=b_F.out;have O_w:=e_Z.out;have O_x:=b_G.out;have F_Y : w53.cell? ⟨b_S,0,none⟩ = some (.int .i64 0):=(a_a b_r.out 0).trans rfl;have F_Z : w53.cell? ⟨b_S,1,none⟩ = some (.int .i64 0):=(a_a b_r.out 1).trans rfl;have F_0 : w53.cell? ⟨b_S,2,none⟩ = some (.int .i64 0):=(a_a b_r.out 2).trans rfl;have F_1 : w53.cell? ⟨b_S,3,none⟩ = some (.int .i64 0):=(a_a b_r.out 3).trans rfl;have F_2 : w53.cell? ⟨b_S,4,none⟩ = some (.int .i64 0):=(a_a b_r.out 4).trans rfl;have F_3 : w53.cell? ⟨b_S,5,none⟩ = some (.bool false):=(a_a b_r.out 5).trans rfl;have F_4 : w53.cell? ⟨b_S,6,none⟩ = some (.bool false):=(a_a b_r.out 6).trans rfl;have F_5 : w53.cell? ⟨b_S,7,none⟩ = some (.int .u32 0):=(a_a b_r.out 7).trans rfl;have F_6 : w53.cell? ⟨b_S,8,none⟩ = some (.int .i64 0):=(a_a b_r.out 8).trans rfl;have F_7 : w53.cell? ⟨b_S,9,none⟩ = some (.int .i64 0):=(a_a b_r.out 9).trans rfl;have x_q : w53.cell? ⟨b_S,10,none⟩ = some (.int .i64 0):=(a_a b_r.out 10).trans rfl;have F_8:=a_b b_r.out 0;have F_9:=a_b b_r.out 1;have G_a:=a_b b_r.out 2;have G_b:=a_b b_r.out 3;have G_c:=a_b b_r.out 4;have G_d:=a_b b_r.out 5;have G_e:=a_b b_r.out 6;have G_f:=a_b b_r.out 7;have G_g:=a_b b_r.out 8;have G_h:=a_b b_r.out 9;have x_r:=a_b b_r.out 10;have G_i : w53.cell? ⟨a_T,0,none⟩ = some (.int .i64 ((a_c l0_1 x3_2).f0)):=(a_a a_M.out 0).trans rfl;have G_j : w53.cell? ⟨a_T,1,none⟩ = some (.int .i64 ((a_c l0_1 x3_2).f1)):=(a_a a_M.out 1).trans rfl;have G_k : w53.cell? ⟨a_T,2,none⟩ = some (.int .i64 ((a_c l0_1 x3_2).f2)):=(a_a a_M.out 2).trans rfl;have G_l : w53.cell? ⟨a_T,3,none⟩ = some (.int .i64 ((a_c l0_1 x3_2).f3)):=(a_a a_M.out 3).trans rfl;have G_m : w53.cell? ⟨a_T,4,none⟩ = some (.int .i64 ((a_c l0_1 x3_2).f4)):=(a_a a_M.out 4).trans rfl;have G_n : w53.cell? ⟨a_T,5,none⟩ = some (.bool ((a_c l0_1 x3_2).f5)):=(a_a a_M.out 5).trans rfl;have G_o : w53.cell? ⟨a_T,6,none⟩ = some (.bool ((a_c l0_1 x3_2).f6)):=(a_a a_M.out 6).trans rfl;have G_p : w53.cell? ⟨a_T,7,none⟩ = some (.int .u32 ((a_c l0_1 x3_2).f7)):=(a_a a_M.out 7).trans rfl;have G_q : w53.cell? ⟨a_T,8,none⟩ = some (.int .i64 ((a_c l0_1 x3_2).f8)):=(a_a a_M.out 8).trans rfl;have G_r : w53.cell? ⟨a_T,9,none⟩ = some (.int .i64 ((a_c l0_1 x3_2).f9)):=(a_a a_M.out 9).trans rfl;have x_s : w53.cell? ⟨a_T,10,none⟩ = some (.int .i64 ((a_c l0_1 x3_2).f10)):=(a_a a_M.out 10).trans rfl;have G_s:=a_b a_M.out 0;have G_t:=a_b a_M.out 1;have G_u:=a_b a_M.out 2;have G_v:=a_b a_M.out 3;have G_w:=a_b a_M.out 4;have G_x:=a_b a_M.out 5;have G_y:=a_b a_M.out 6;have G_z:=a_b a_M.out 7;have G_A:=a_b a_M.out 8;have G_B:=a_b a_M.out 9;have x_t:=a_b a_M.out 10))
          go_ret
          exact ⟨by first|rfl|(simp [a_w,a_x] <;> rfl)|(simp [*, a_w,a_x] <;> rfl),by repeat (first|(with_reducible first|exact HB.out|apply a_g|apply a_f|apply a_h|refine a_d ?_ d_Y.out|refine a_d ?_ e_C.out|refine a_d ?_ l_d.out)|exact HB.out)⟩
         rw [if_pos c35] at H
         have c35b0 : (((a_c l0_1 x6_4).f9) == ((a_c l0_1 x3_2).f9)) = true:=beq_iff_eq.mpr c35
         have c35b1 : (((a_c l0_1 x6_4).f9) != ((a_c l0_1 x3_2).f9)) = false:=bne_eq_false_iff_eq.mpr c35
         clear c35
         by_cases c36 : ((a_c l0_1 x6_4).f10) = ((a_c l0_1 x3_2).f10)
         rotate_left
         ·rw [if_neg c36] at H
          have c36b0 : (((a_c l0_1 x6_4).f10) == ((a_c l0_1 x3_2).f10)) = false:=beq_eq_false_iff_ne.mpr c36
          have c36b1 : (((a_c l0_1 x6_4).f10) != ((a_c l0_1 x3_2).f10)) = true:=bne_iff_ne.mpr c36
          obtain rfl:=Option.some.inj H
          have O_y:=b_j.out
          have O_z:=f_n.out
          have G_C : wr.cell? ⟨d_F,0,none⟩ = some (.int .i64 a0_0):=(a_a b_s.out 0).trans rfl
          have G_D : wr.cell? ⟨d_F,1,none⟩ = some (.slice (some ad213) l0_1.length c0_1):=(a_a b_s.out 1).trans rfl
          have G_E:=a_b b_s.out 0
          have G_F:=a_b b_s.out 1
          have p217 : 0 ≤ (x6_4 : Int):=of_decide_eq_true (by first|(with_reducible assumption)|assumption)
          have q217 : x6_4 < (l0_1.length : Int):=of_decide_eq_true (by first|(with_reducible assumption)|assumption)
          obtain ⟨ad217,e217,d_4,d_5,d_6,d_7,d_8,d_9,e_a,e_b,e_c,e_d,d_d⟩:=e_h e_o.out x6_4 p217 q217
          obtain rfl : ad213 = ad217:=(by injection e217)
          replace d_4:=(HB.out.cell (World.block_lt_of_cell? w _ d_4)).trans d_4
          replace d_5:=(HB.out.cell (World.block_lt_of_cell? w _ d_5)).trans d_5
          replace d_6:=(HB.out.cell (World.block_lt_of_cell? w _ d_6)).trans d_6
          replace d_7:=(HB.out.cell (World.block_lt_of_cell? w _ d_7)).trans d_7
          replace d_8:=(HB.out.cell (World.block_lt_of_cell? w _ d_8)).trans d_8
          replace d_9:=(HB.out.cell (World.block_lt_of_cell? w _ d_9)).trans d_9
          replace e_a:=(HB.out.cell (World.block_lt_of_cell? w _ e_a)).trans e_a
          replace e_b:=(HB.out.cell (World.block_lt_of_cell? w _ e_b)).trans e_b
          replace e_c:=(HB.out.cell (World.block_lt_of_cell? w _ e_c)).trans e_c
          replace e_d:=(HB.out.cell (World.block_lt_of_cell? w _ e_d)).trans e_d
          replace d_d:=(HB.out.cell (World.block_lt_of_cell? w _ d_d)).trans d_d
          replace p217:=eq_true p217
          replace q217:=eq_true q217
          go_wp2_with (first|((with_reducible refine a_U (N:=7) rfl ?_);refine a_H ?hg (N:=7) ?hd (cs:=#[.int .i64 0,.int .i64 0,.int .i64 0,.int .i64 0,.int .i64 0,.bool false,.bool false,.int .u32 0,.int .i64 0,.int .i64 0,.int .i64 0]) (t:=65) ?hr ?_;(case hd => rfl);(case hg => rfl);(case hr => first|(go_simp;done)|(go_simp;rfl));intro b_S hg w46 hbox hb;have b_r:=a_e.mk (hbox);have r_A:=a_e.mk ((by rw [hg];exact (a_p (by repeat (first|(with_reducible first|exact HB.out|apply a_g|apply a_f|apply a_h|refine a_d ?_ d_Y.out|refine a_d ?_ e_C.out)|exact HB.out))) : w.heap.size ≤ b_S));have l_d:=a_e.mk ((by rw [hg];exact (a_p (by repeat (first|(with_reducible first|exact HB.out|apply a_g|apply a_f|apply a_h|refine a_d ?_ d_Y.out|refine a_d ?_ e_C.out)|exact HB.out))) : w.heap.size ≤ b_S));have b_F:=a_e.mk ((by rw [hg];exact Nat.ne_of_lt (a_N (bup_ b_s.out)) : d_F ≠ b_S));have e_Y:=a_e.mk ((by rw [hg];exact Nat.ne_of_gt (a_N (bup_ b_s.out)) : b_S ≠ d_F));have b_G:=a_e.mk ((by rw [hg];exact Nat.ne_of_lt (a_N (bup_ a_M.out)) : a_T ≠ b_S));have e_Z:=a_e.mk ((by rw [hg];exact Nat.ne_of_gt (a_N (bup_ a_M.out)) : b_S ≠ a_T));replace b_s:=a_e.mk (a_l (bup_ b_s.out) hb);replace a_M:=a_e.mk (a_l (bup_ a_M.out) hb);replace HB:=a_e.mk (a_t (by repeat (first|(with_reducible first|exact HB.out|apply a_g|apply a_f|apply a_h|refine a_d ?_ d_Y.out|refine a_d ?_ e_C.out)|exact HB.out)) hb);clear hb hbox hg;have A_3:=e_Y.out;have A_4:=b_F.out;have G_G:=e_Z.out;have G_H:=b_G.out;have G_I : w46.cell? ⟨b_S,0,none⟩ = some (.int .i64 0):=(a_a b_r.out 0).trans rfl;have G_J : w46.cell? ⟨b_S,1,none⟩ = some (.int .i64 0):=(a_a b_r.out 1).trans rfl;have G_K : w46.cell? ⟨b_S,2,none⟩ = some (.int .i64 0):=(a_a b_r.out 2).trans rfl;have G_L : w46.cell? ⟨b_S,3,none⟩ = some (.int .i64 0):=(a_a b_r.out 3).trans rfl;have G_M : w46.cell? ⟨b_S,4,none⟩ = some (.int .i64 0):=(a_a b_r.out 4).trans rfl;have G_N : w46.cell? ⟨b_S,5,none⟩ = some (.bool false):=(a_a b_r.out 5).trans rfl;have G_O : w46.cell? ⟨b_S,6,none⟩ = some (.bool false):=(a_a b_r.out 6).trans rfl;have G_P : w46.cell? ⟨b_S,7,none⟩ = some (.int .u32 0):=(a_a b_r.out 7).trans rfl;have G_Q : w46.cell? ⟨b_S,8,none⟩ = some (.int .i64 0):=(a_a b_r.out 8).trans rfl;have G_R : w46.cell? ⟨b_S,9,none⟩ = some (.int .i64 0):=(a_a b_r.out 9).trans rfl;have x_u : w46.cell? ⟨b_S,10,none⟩ = some (.int .i64 0):=(a_a b_r.out 10).trans rfl;have G_S:=a_b b_r.out 0;have G_T:=a_b b_r.out 1;have G_U:=a_b b_r.out 2;have G_V:=a_b b_r.out 3;have G_W:=a_b b_r.out 4;have G_X:=a_b b_r.out 5;have G_Y:=a_b b_r.out 6;have G_Z:=a_b b_r.out 7;have G_0:=a_b b_r.out 8;have G_1:=a_b b_r.out 9;have x_v:=a_b b_r.out 10;have p_6 : w46.cell? ⟨a_T,0,none⟩ = some (.int .i64 ((a_c l0_1 x3_2).f0)):=(a_a a_M.out 0).trans rfl;have p_7 : w46.cell? ⟨a_T,1,none⟩ = some (.int .i64 ((a_c l0_1 x3_2).f1)):=(a_a a_M.out 1).trans rfl;have t_T : w46.cell? ⟨a_T,2,none⟩ = some (.int .i64 ((a_c l0_1 x3_2).f2)):=(a_a a_M.out 2).trans rfl;have t_U : w46.cell? ⟨a_T,3,none⟩ = some (.int .i64 ((a_c l0_1 x3_2).f3)):=(a_a a_M.out 3).trans rfl;have t_V : w46.cell? ⟨a_T,4,none⟩ = some (.int .i64 ((a_c l0_1 x3_2).f4)):=(a_a a_M.out 4).trans rfl;have t_W : w46.cell? ⟨a_T,5,none⟩ = some (.bool ((a_c l0_1 x3_2).f5)):=(a_a a_M.out 5).trans rfl;have t_X : w46.cell? ⟨a_T,6,none⟩ = some (.bool ((a_c l0_1 x3_2).f6)):=(a_a a_M.out 6).trans rfl;have t_Y : w46.cell? ⟨a_T,7,none⟩ = some (.int .u32 ((a_c l0_1 x3_2).f7)):=(a_a a_M.out 7).trans rfl;have t_Z : w46.cell? ⟨a_T,8,none⟩ = some (.int .i64 ((a_c l0_1 x3_2).f8)):=(a_a a_M.out 8).trans rfl;have t_0 : w46.cell? ⟨a_T,9,none⟩ = some (.int .i64 ((a_c l0_1 x3_2).f9)):=(a_a a_M.out 9).trans rfl;have r_w : w46.cell? ⟨a_T,10,none⟩ = some (.int .i64 ((a_c l0_1 x3_2).f10)):=(a_a a_M.out 10).trans rfl;have p_8:=a_b a_M.out 0;have p_9:=a_b a_M.out 1;have t_1:=a_b a_M.out 2;have t_2:=a_b a_M.out 3;have t_3:=a_b a_M.out 4;have t_4:=a_b a_M.out 5;have t_5:=a_b a_M.out 6;have t_6:=a_b a_M.out 7;have t_7:=a_b a_M.out 8;have t_8:=a_b a_M.out 9;have r_x:=a_b a_M.out 10))
          go_ret
          exact ⟨by first|rfl|(simp [a_w,a_x] <;> rfl)|(simp [*, a_w,a_x] <;> rfl),by repeat (first|(with_reducible first|exact HB.out|apply a_g|apply a_f|apply a_h|refine a_d ?_ d_Y.out|refine a_d ?_ e_C.out|refine a_d ?_ l_d.out)|exact HB.out)⟩
         rw [if_pos c36] at H
         have c36b0 : (((a_c l0_1 x6_4).f10) == ((a_c l0_1 x3_2).f10)) = true:=beq_iff_eq.mpr c36
         have c36b1 : (((a_c l0_1 x6_4).f10) != ((a_c l0_1 x3_2).f10)) = false:=bne_eq_false_iff_eq.mpr c36
         clear c36
         have H':=a_e.mk H
         clear H
         have O_A:=b_j.out
         have O_B:=f_n.out
         have G_2 : wr.cell? ⟨d_F,0,none⟩ = some (.int .i64 a0_0):=(a_a b_s.out 0).trans rfl
         have G_3 : wr.cell? ⟨d_F,1,none⟩ = some (.slice (some ad213) l0_1.length c0_1):=(a_a b_s.out 1).trans rfl
         have G_4:=a_b b_s.out 0
         have G_5:=a_b b_s.out 1
         have p217 : 0 ≤ (x6_4 : Int):=of_decide_eq_true (by first|(with_reducible assumption)|assumption)
         have q217 : x6_4 < (l0_1.length : Int):=of_decide_eq_true (by first|(with_reducible assumption)|assumption)
         obtain ⟨ad217,e217,d_4,d_5,d_6,d_7,d_8,d_9,e_a,e_b,e_c,e_d,d_d⟩:=e_h e_o.out x6_4 p217 q217
         obtain rfl : ad213 = ad217:=(by injection e217)
         replace d_4:=(HB.out.cell (World.block_lt_of_cell? w _ d_4)).trans d_4
         replace d_5:=(HB.out.cell (World.block_lt_of_cell? w _ d_5)).trans d_5
         replace d_6:=(HB.out.cell (World.block_lt_of_cell? w _ d_6)).trans d_6
         replace d_7:=(HB.out.cell (World.block_lt_of_cell? w _ d_7)).trans d_7
         replace d_8:=(HB.out.cell (World.block_lt_of_cell? w _ d_8)).trans d_8
         replace d_9:=(HB.out.cell (World.block_lt_of_cell? w _ d_9)).trans d_9
         replace e_a:=(HB.out.cell (World.block_lt_of_cell? w _ e_a)).trans e_a
         replace e_b:=(HB.out.cell (World.block_lt_of_cell? w _ e_b)).trans e_b
         replace e_c:=(HB.out.cell (World.block_lt_of_cell? w _ e_c)).trans e_c
         replace e_d:=(HB.out.cell (World.block_lt_of_cell? w _ e_d)).trans e_d
         replace d_d:=(HB.out.cell (World.block_lt_of_cell? w _ d_d)).trans d_d
         replace p217:=eq_true p217
         replace q217:=eq_true q217
         go_wp2_with (first|((with_reducible refine a_U (N:=7) rfl ?_);refine a_H ?hg (N:=7) ?hd (cs:=#[.int .i64 0,.int .i64 0,.int .i64 0,.int .i64 0,.int .i64 0,.bool false,.bool false,.int .u32 0,.int .i64 0,.int .i64 0,.int .i64 0]) (t:=65) ?hr ?_;(case hd => rfl);(case hg => rfl);(case hr => first|(go_simp;done)|(go_simp;rfl));intro b_S hg w39 hbox hb;have b_r:=a_e.mk (hbox);have r_A:=a_e.mk ((by rw [hg];exact (a_p (by repeat (first|(with_reducible first|exact HB.out|apply a_g|apply a_f|apply a_h|refine a_d ?_ d_Y.out|refine a_d ?_ e_C.out)|exact HB.out))) : w.heap.size ≤ b_S));have l_d:=a_e.mk ((by rw [hg];exact (a_p (by repeat (first|(with_reducible first|exact HB.out|apply a_g|apply a_f|apply a_h|refine a_d ?_ d_Y.out|refine a_d ?_ e_C.out)|exact HB.out))) : w.heap.size ≤ b_S));have b_F:=a_e.mk ((by rw [hg];exact Nat.ne_of_lt (a_N (bup_ b_s.out)) : d_F ≠ b_S));have e_Y:=a_e.mk ((by rw [hg];exact Nat.ne_of_gt (a_N (bup_ b_s.out)) : b_S ≠ d_F));have b_G:=a_e.mk ((by rw [hg];exact Nat.ne_of_lt (a_N (bup_ a_M.out)) : a_T ≠ b_S));have e_Z:=a_e.mk ((by rw [hg];exact Nat.ne_of_gt (a_N (bup_ a_M.out)) : b_S ≠ a_T));replace b_s:=a_e.mk (a_l (bup_ b_s.out) hb);replace a_M:=a_e.mk (a_l (bup_ a_M.out) hb);replace HB:=a_e.mk (a_t (by repeat (first|(with_reducible first|exact HB.out|apply a_g|apply a_f|apply a_h|refine a_d ?_ d_Y.out|refine a_d ?_ e_C.out)|exact HB.out)) hb);clear hb hbox hg;have G_6:=e_Y.out;have G_7:=b_F.out;have w_n:=e_Z.out;have w_o:=b_G.out;have j_t : w39.cell? ⟨b_S,0,none⟩ = some (.int .i64 0):=(a_a b_r.out 0).trans rfl;have j_u : w39.cell? ⟨b_S,1,none⟩ = some (.int .i64 0):=(a_a b_r.out 1).trans rfl;have u_e : w39.cell? ⟨b_S,2,none⟩ = some (.int .i64 0):=(a_a b_r.out 2).trans rfl;have u_f : w39.cell? ⟨b_S,3,none⟩ = some (.int .i64 0):=(a_a b_r.out 3).trans rfl;have u_g : w39.cell? ⟨b_S,4,none⟩ = some (.int .i64 0):=(a_a b_r.out 4).trans rfl;have u_h : w39.cell? ⟨b_S,5,none⟩ = some (.bool false):=(a_a b_r.out 5).trans rfl;have u_i : w39.cell? ⟨b_S,6,none⟩ = some (.bool false):=(a_a b_r.out 6).trans rfl;have u_j : w39.cell? ⟨b_S,7,none⟩ = some (.int .u32 0):=(a_a b_r.out 7).trans rfl;have u_k : w39.cell? ⟨b_S,8,none⟩ = some (.int .i64 0):=(a_a b_r.out 8).trans rfl;have u_l : w39.cell? ⟨b_S,9,none⟩ = some (.int .i64 0):=(a_a b_r.out 9).trans rfl;have r_y : w39.cell? ⟨b_S,10,none⟩ = some (.int .i64 0):=(a_a b_r.out 10).trans rfl;have j_v:=a_b b_r.out 0;have j_w:=a_b b_r.out 1;have u_m:=a_b b_r.out 2;have u_n:=a_b b_r.out 3;have u_o:=a_b b_r.out 4;have u_p:=a_b b_r.out 5;have u_q:=a_b b_r.out 6;have u_r:=a_b b_r.out 7;have u_s:=a_b b_r.out 8;have u_t:=a_b b_r.out 9;have r_z:=a_b b_r.out 10;have G_8 : w39.cell? ⟨a_T,0,none⟩ = some (.int .i64 ((a_c l0_1 x3_2).f0)):=(a_a a_M.out 0).trans rfl;have G_9 : w39.cell? ⟨a_T,1,none⟩ = some (.int .i64 ((a_c l0_1 x3_2).f1)):=(a_a a_M.out 1).trans rfl;have H_a : w39.cell? ⟨a_T,2,none⟩ = some (.int .i64 ((a_c l0_1 x3_2).f2)):=(a_a a_M.out 2).trans rfl;have H_b : w39.cell? ⟨a_T,3,none⟩ = some (.int .i64 ((a_c l0_1 x3_2).f3)):=(a_a a_M.out 3).trans rfl;have H_c : w39.cell? ⟨a_T,4,none⟩ = some (.int .i64 ((a_c l0_1 x3_2).f4)):=(a_a a_M.out 4).trans rfl;have H_d : w39.cell? ⟨a_T,5,none⟩ = some (.bool ((a_c l0_1 x3_2).f5)):=(a_a a_M.out 5).trans rfl;have H_e : w39.cell? ⟨a_T,6,none⟩ = some (.bool ((a_c l0_1 x3_2).f6)):=(a_a a_M.out 6).trans rfl;have H_f : w39.cell? ⟨a_T,7,none⟩ = some (.int .u32 ((a_c l0_1 x3_2).f7)):=(a_a a_M.out 7).trans rfl;have H_g : w39.cell? ⟨a_T,8,none⟩ = some (.int .i64 ((a_c l0_1 x3_2).f8)):=(a_a a_M.out 8).trans rfl;have H_h : w39.cell? ⟨a_T,9,none⟩ = some (.int .i64 ((a_c l0_1 x3_2).f9)):=(a_a a_M.out 9).trans rfl;have x_w : w39.cell? ⟨a_T,10,none⟩ = some (.int .i64 ((a_c l0_1 x3_2).f10)):=(a_a a_M.out 10).trans rfl;have H_i:=a_b a_M.out 0;have H_j:=a_b a_M.out 1;have H_k:=a_b a_M.out 2;have H_l:=a_b a_M.out 3;have H_m:=a_b a_M.out 4;have H_n:=a_b a_M.out 5;have H_o:=a_b a_M.out 6;have H_p:=a_b a_M.out 7;have H_q:=a_b a_M.out 8;have H_r:=a_b a_M.out 9;have x_x:=a_b a_M.out 10))
         go_roundg k4
         case measure => have:=HJ1.out;have:=HK2.out;have:=HJ9.out;have:=HK4.out;omega
         case rel => exact ⟨(wrap64 (x5_4 + 1)),(wrap64 (x6_4 + 1)),(by first|rfl|(simp;done)|(simp [*];done)),(by first|rfl|(simp;done)|(simp [*];done)),H',⟨by have:=HJ1.out;have:=HK2.out;have:=HJ9.out;have:=HK4.out;omega⟩,⟨by (with_reducible repeat (first|refine a_j ?_ _|refine a_k ?_|refine a_i ?_ _));refine a_B ?_ b_F.out _;(with_reducible repeat (first|refine a_j ?_ _|refine a_k ?_|refine a_i ?_ _));refine a_B ?_ b_F.out _;(with_reducible repeat (first|refine a_j ?_ _|refine a_k ?_|refine a_i ?_ _));refine a_B ?_ b_F.out _;(with_reducible repeat (first|refine a_j ?_ _|refine a_k ?_|refine a_i ?_ _));refine a_B ?_ b_F.out _;(with_reducible repeat (first|refine a_j ?_ _|refine a_k ?_|refine a_i ?_ _));refine a_B ?_ b_F.out _;(with_reducible repeat (first|refine a_j ?_ _|refine a_k ?_|refine a_i ?_ _));refine a_B ?_ b_F.out _;(with_reducible repeat (first|refine a_j ?_ _|refine a_k ?_|refine a_i ?_ _));refine a_B ?_ b_F.out _;(with_reducible repeat (first|refine a_j ?_ _|refine a_k ?_|refine a_i ?_ _));refine a_B ?_ b_F.out _;(with_reducible repeat (first|refine a_j ?_ _|refine a_k ?_|refine a_i ?_ _));refine a_B ?_ b_F.out _;(with_reducible repeat (first|refine a_j ?_ _|refine a_k ?_|refine a_i ?_ _));refine a_B ?_ b_F.out _;(with_reducible repeat (first|refine a_j ?_ _|refine a_k ?_|refine a_i ?_ _));refine a_B ?_ b_F.out _;(with_reducible repeat (first|refine a_j ?_ _|refine a_k ?_|refine a_i ?_ _));exact b_s.out⟩,⟨by (with_reducible repeat (first|refine a_j ?_ _|refine a_k ?_|refine a_i ?_ _));refine a_B ?_ b_G.out _;(with_reducible repeat (first|refine a_j ?_ _|refine a_k ?_|refine a_i ?_ _));refine a_B ?_ b_G.out _;(with_reducible repeat (first|refine a_j ?_ _|refine a_k ?_|refine a_i ?_ _));refine a_B ?_ b_G.out _;(with_reducible repeat (first|refine a_j ?_ _|refine a_k ?_|refine a_i ?_ _));refine a_B ?_ b_G.out _;(with_reducible repeat (first|refine a_j ?_ _|refine a_k ?_|refine a_i ?_ _));refine a_B ?_ b_G.out _;(with_reducible repeat (first|refine a_j ?_ _|refine a_k ?_|refine a_i ?_ _));refine a_B ?_ b_G.out _;(with_reducible repeat (first|refine a_j ?_ _|refine a_k ?_|refine a_i ?_ _));refine a_B ?_ b_G.out _;(with_reducible repeat (first|refine a_j ?_ _|refine a_k ?_|refine a_i ?_ _));refine a_B ?_ b_G.out _;(with_reducible repeat (first|refine a_j ?_ _|refine a_k ?_|refine a_i ?_ _));refine a_B ?_ b_G.out _;(with_reducible repeat (first|refine a_j ?_ _|refine a_k ?_|refine a_i ?_ _));refine a_B ?_ b_G.out _;(with_reducible repeat (first|refine a_j ?_ _|refine a_k ?_|refine a_i ?_ _));refine a_B ?_ b_G.out _;(with_reducible repeat (first|refine a_j ?_ _|refine a_k ?_|refine a_i ?_ _));exact a_M.out⟩,⟨by repeat (first|(with_reducible first|exact HB.out|apply a_g|apply a_f|apply a_h|refine a_d ?_ d_Y.out|refine a_d ?_ e_C.out|refine a_d ?_ l_d.out)|exact HB.out)⟩⟩
end Go.Proofs.Ytgglkfilkagblaa.Q
end
