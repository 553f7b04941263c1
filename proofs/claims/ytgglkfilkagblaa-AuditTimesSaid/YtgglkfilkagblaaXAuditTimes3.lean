/- Part 4 of 13 of what the row of AuditTimes stands on: contracts over the given program's functions, the plain law, the row; no condition beyond those that each theorem states. -/
import Derived.Test.YtgglkfilkagblaaXAuditTimes2
section
namespace Go.Proofs.Ytgglkfilkagblaa.Q
open Go.RowKit Go.Proofs.YtgglkfilkagblaaW.PrintWords Go.Proofs.YtgglkfilkagblaaW.PrintLast Go.Proofs.YtgglkfilkagblaaW.PrintMore
set_option linter.unusedVariables false
set_option linter.unusedSimpArgs false
mutual
def a_k.j0 : Nat → Bool → Int → List (S65) → Option (Bool)
 | 0,_,_,_ => none
 | k + 1,x15,x213000,x213001 => if x15 = true then (some false) else (a_k.l0 k 0 x213000 x213001)
def a_k.l0 : Nat → Int → Int → List (S65) → Option (Bool)
 | 0,_,_,_ => none
 | k + 1,x3,x213000,x213001 => if x3 < (x213001.length : Int) then (if 0 ≤ x3 then ((b_D.f ((a_c x213001 x3).f0) ((a_c x213001 x3).f1) ((a_c x213001 x3).f2) ((a_c x213001 x3).f3) ((a_c x213001 x3).f4) ((a_c x213001 x3).f5) ((a_c x213001 x3).f6) ((a_c x213001 x3).f7) ((a_c x213001 x3).f8) ((a_c x213001 x3).f9) ((a_c x213001 x3).f10)).bind fun t215 => (if t215 = true then (if x3 > 0 then (if 0 ≤ (wrap64 (x3 - 1)) then (if (wrap64 (x3 - 1)) < (x213001.length : Int) then (a_k.j2 k x3 (decide (((a_c x213001 (wrap64 (x3 - 1))).f0) ≥ ((a_c x213001 x3).f0))) x213000 x213001 ((a_c x213001 x3).f0) ((a_c x213001 x3).f1) ((a_c x213001 x3).f2) ((a_c x213001 x3).f3) ((a_c x213001 x3).f4) ((a_c x213001 x3).f5) ((a_c x213001 x3).f6) ((a_c x213001 x3).f7) ((a_c x213001 x3).f8) ((a_c x213001 x3).f9) ((a_c x213001 x3).f10)) else (none)) else (none)) else (a_k.j2 k x3 false x213000 x213001 ((a_c x213001 x3).f0) ((a_c x213001 x3).f1) ((a_c x213001 x3).f2) ((a_c x213001 x3).f3) ((a_c x213001 x3).f4) ((a_c x213001 x3).f5) ((a_c x213001 x3).f6) ((a_c x213001 x3).f7) ((a_c x213001 x3).f8) ((a_c x213001 x3).f9) ((a_c x213001 x3).f10))) else (a_k.j2 k x3 true x213000 x213001 ((a_c x213001 x3).f0) ((a_c x213001 x3).f1) ((a_c x213001 x3).f2) ((a_c x213001 x3).f3) ((a_c x213001 x3).f4) ((a_c x213001 x3).f5) ((a_c x213001 x3).f6) ((a_c x213001 x3).f7) ((a_c x213001 x3).f8) ((a_c x213001 x3).f9) ((a_c x213001 x3).f10)))) else (none)) else (some true)
def a_k.j2 : Nat → Int → Bool → Int → List (S65) → Int → Int → Int → Int → Int → Bool → Bool → Int → Int → Int → Int → Option (Bool)
 | 0,_,_,_,_,_,_,_,_,_,_,_,_,_,_,_ => none
 | k + 1,x3,x46,x213000,x213001,x215000,x215001,x215002,x215003,x215004,x215005,x215006,x215007,x215008,x215009,x215010 => if x46 = true then (some false) else (a_k.l1 k x3 0 0 x213000 x213001 x215000 x215001 x215002 x215003 x215004 x215005 x215006 x215007 x215008 x215009 x215010)
def a_k.l1 : Nat → Int → Int → Int → Int → List (S65) → Int → Int → Int → Int → Int → Bool → Bool → Int → Int → Int → Int → Option (Bool)
 | 0,_,_,_,_,_,_,_,_,_,_,_,_,_,_,_,_ => none
 | k + 1,x3,x5,x6,x213000,x213001,x215000,x215001,x215002,x215003,x215004,x215005,x215006,x215007,x215008,x215009,x215010 => if x6 < (x213001.length : Int) then (if 0 ≤ x6 then (if ((a_c x213001 x6).f1) = x215001 then (if ((a_c x213001 x6).f8) = x215008 then (if ((a_c x213001 x6).f9) = x215009 then (if ((a_c x213001 x6).f10) = x215010 then (a_k.l1 k x3 (wrap64 (x5 + 1)) (wrap64 (x6 + 1)) x213000 x213001 x215000 x215001 x215002 x215003 x215004 x215005 x215006 x215007 x215008 x215009 x215010) else (some false)) else (some false)) else (some false)) else (a_k.l1 k x3 x5 (wrap64 (x6 + 1)) x213000 x213001 x215000 x215001 x215002 x215003 x215004 x215005 x215006 x215007 x215008 x215009 x215010)) else (none)) else (if x5 = x215009 then (a_k.l0 k (wrap64 (x3 + 1)) x213000 x213001) else (some false))
end
def a_k.f (k : Nat) (a0_0 : Int) (l0_1 : List (S65)) : Option (Bool):=if a0_0 < 0 then (a_k.j0 k true a0_0 l0_1) else (a_k.j0 k (decide (a0_0 > 1125899906842624)) a0_0 l0_1)
theorem a_k.c_w : ∀ k,(∀ y0 y1 y2,LeO (a_k.j0 k y0 y1 y2) (a_k.j0 (k + 1) y0 y1 y2)) ∧ (∀ y0 y1 y2,LeO (a_k.l0 k y0 y1 y2) (a_k.l0 (k + 1) y0 y1 y2)) ∧ (∀ y0 y1 y2 y3 y4 y5 y6 y7 y8 y9 y10 y11 y12 y13 y14,LeO (a_k.j2 k y0 y1 y2 y3 y4 y5 y6 y7 y8 y9 y10 y11 y12 y13 y14) (a_k.j2 (k + 1) y0 y1 y2 y3 y4 y5 y6 y7 y8 y9 y10 y11 y12 y13 y14)) ∧ (∀ y0 y1 y2 y3 y4 y5 y6 y7 y8 y9 y10 y11 y12 y13 y14 y15,LeO (a_k.l1 k y0 y1 y2 y3 y4 y5 y6 y7 y8 y9 y10 y11 y12 y13 y14 y15) (a_k.l1 (k + 1) y0 y1 y2 y3 y4 y5 y6 y7 y8 y9 y10 y11 y12 y13 y14 y15))
 | 0 => ⟨fun _ _ _ r h => by simp [a_k.j0] at h,fun _ _ _ r h => by simp [a_k.l0] at h,fun _ _ _ _ _ _ _ _ _ _ _ _ _ _ _ r h => by simp [a_k.j2] at h,fun _ _ _ _ _ _ _ _ _ _ _ _ _ _ _ _ r h => by simp [a_k.l1] at h⟩
 | k + 1 => by
  obtain ⟨ih0,ih1,ih2,ih3⟩:=a_k.c_w k
  refine ⟨?_,?_,?_,?_⟩
  ·intro y0 y1 y2
   unfold a_k.j0
   repeat' first
   | (with_reducible exact ih0 _ _ _)
   | (with_reducible exact ih1 _ _ _)
   | (with_reducible exact ih2 _ _ _ _ _ _ _ _ _ _ _ _ _ _ _)
   | (with_reducible exact ih3 _ _ _ _ _ _ _ _ _ _ _ _ _ _ _ _)
   | (with_reducible exact LeO.refl _)
   | (with_reducible exact LeO.none _)
   | (with_reducible refine LeO.ite ?_ ?_)
   | (with_reducible refine LeO.bind ?_ (fun _ => ?_))
   | exact ih0 _ _ _
   | exact ih1 _ _ _
   | exact ih2 _ _ _ _ _ _ _ _ _ _ _ _ _ _ _
   | exact ih3 _ _ _ _ _ _ _ _ _ _ _ _ _ _ _ _
   | exact LeO.none _
   | refine LeO.ite ?_ ?_
   | refine LeO.bind ?_ (fun _ => ?_)
  ·intro y0 y1 y2
   unfold a_k.l0
   repeat' first
   | (with_reducible exact ih0 _ _ _)
   | (with_reducible exact ih1 _ _ _)
   | (with_reducible exact ih2 _ _ _ _ _ _ _ _ _ _ _ _ _ _ _)
   | (with_reducible exact ih3 _ _ _ _ _ _ _ _ _ _ _ _ _ _ _ _)
   | (with_reducible exact LeO.refl _)
   | (with_reducible exact LeO.none _)
   | (with_reducible refine LeO.ite ?_ ?_)
   | (with_reducible refine LeO.bind ?_ (fun _ => ?_))
   | exact ih0 _ _ _
   | exact ih1 _ _ _
   | exact ih2 _ _ _ _ _ _ _ _ _ _ _ _ _ _ _
   | exact ih3 _ _ _ _ _ _ _ _ _ _ _ _ _ _ _ _
   | exact LeO.none _
   | refine LeO.ite ?_ ?_
   | refine LeO.bind ?_ (fun _ => ?_)
  ·intro y0 y1 y2 y3 y4 y5 y6 y7 y8 y9 y10 y11 y12 y13 y14
   unfold a_k.j2
   repeat' first
   | (with_reducible exact ih0 _ _ _)
   | (with_reducible exact ih1 _ _ _)
   | (with_reducible exact ih2 _ _ _ _ _ _ _ _ _ _ _ _ _ _ _)
   | (with_reducible exact ih3 _ _ _ _ _ _ _ _ _ _ _ _ _ _ _ _)
   | (with_reducible exact LeO.refl _)
   | (with_reducible exact LeO.none _)
   | (with_reducible refine LeO.ite ?_ ?_)
   | (with_reducible refine LeO.bind ?_ (fun _ => ?_))
   | exact ih0 _ _ _
   | exact ih1 _ _ _
   | exact ih2 _ _ _ _ _ _ _ _ _ _ _ _ _ _ _
   | exact ih3 _ _ _ _ _ _ _ _ _ _ _ _ _ _ _ _
   | exact LeO.none _
   | refine LeO.ite ?_ ?_
   | refine LeO.bind ?_ (fun _ => ?_)
  ·intro y0 y1 y2 y3 y4 y5 y6 y7 y8 y9 y10 y11 y12 y13 y14 y15
   unfold a_k.l1
   repeat' first
   | (with_reducible exact ih0 _ _ _)
   | (with_reducible exact ih1 _ _ _)
   | (with_reducible exact ih2 _ _ _ _ _ _ _ _ _ _ _ _ _ _ _)
   | (with_reducible exact ih3 _ _ _ _ _ _ _ _ _ _ _ _ _ _ _ _)
   | (with_reducible exact LeO.refl _)
   | (with_reducible exact LeO.none _)
   | (with_reducible refine LeO.ite ?_ ?_)
   | (with_reducible refine LeO.bind ?_ (fun _ => ?_))
   | exact ih0 _ _ _
   | exact ih1 _ _ _
   | exact ih2 _ _ _ _ _ _ _ _ _ _ _ _ _ _ _
   | exact ih3 _ _ _ _ _ _ _ _ _ _ _ _ _ _ _ _
   | exact LeO.none _
   | refine LeO.ite ?_ ?_
   | refine LeO.bind ?_ (fun _ => ?_)
theorem a_k.mono : ∀ a0 a1 k,LeO (a_k.f k a0 a1) (a_k.f (k + 1) a0 a1):=by
 intro a0 a1 k
 obtain ⟨ih0,ih1,ih2,ih3⟩:=a_k.c_w k
 unfold a_k.f
 repeat' first
  | (with_reducible exact ih0 _ _ _)
  | (with_reducible exact ih1 _ _ _)
  | (with_reducible exact ih2 _ _ _ _ _ _ _ _ _ _ _ _ _ _ _)
  | (with_reducible exact ih3 _ _ _ _ _ _ _ _ _ _ _ _ _ _ _ _)
  | (with_reducible exact LeO.refl _)
  | (with_reducible exact LeO.none _)
  | (with_reducible refine LeO.ite ?_ ?_)
  | (with_reducible refine LeO.bind ?_ (fun _ => ?_))
  | exact ih0 _ _ _
  | exact ih1 _ _ _
  | exact ih2 _ _ _ _ _ _ _ _ _ _ _ _ _ _ _
  | exact ih3 _ _ _ _ _ _ _ _ _ _ _ _ _ _ _ _
  | exact LeO.none _
  | refine LeO.ite ?_ ?_
  | refine LeO.bind ?_ (fun _ => ?_)
def a_k.T7 : Bool × List (List Nat × List Nat):=(true,[([],[]),([0],[0]),([1],[1]),([2,1],[2]),([3],[3]),([4,3],[3,4]),([5,3,3],[3,5]),([6],[6]),([7,6],[6,7]),([6],[6]),([9,6],[6,9]),([8,10,6],[6,8,10]),([11,6],[6,11]),([12,6],[6,12]),([6],[6]),([14,6],[6,14]),([13,15,6],[6,13,15]),([6,16,3],[3,6,16]),([3,17],[3,17])])
def a_k.B7 : List Nat:=[0,1,3,7,15,31,63,127,255,127,639,2047,4095,8191,127,16511,65535,131071,262143]
theorem a_k.tab7 : rtab .any (opsOf Try.f26 7) = a_k.T7:=by kernel_rfl
theorem a_k.k_l : e_s a_k.T7.2 a_k.B7 = true:=by kernel_rfl
set_option maxHeartbeats 8000000 in
set_option maxRecDepth 100000 in
theorem a_k.calls (k : Nat) (a0_0 : Int) (A0_1 : Option Addr) (c0_1 : Nat) (l0_1 : List (S65)) (r : Bool) (w : World) (hr0_1 : Kd.C k65 w A0_1 l0_1.length l0_1) (hc0_1 : l0_1.length ≤ c0_1) (h : a_k.f k a0_0 l0_1 = some r) :
 Calls Try.prog 26 #[.agg #[.int .i64 a0_0,.slice A0_1 l0_1.length c0_1]] w fun e w' => e = .returned (.bool r) ∧ Below w.heap.size w w':=by
 have hu27:=Try.underlying27
 have hu65:=Try.underlying65
 have d_i:=a_d.mk hr0_1
 have f_j:=a_d.mk hc0_1
 clear hr0_1 hc0_1
 have HB:=a_d.mk (Below.refl w.heap.size w)
 have H : (if a0_0 < 0 then (a_k.j0 k true a0_0 l0_1) else (a_k.j0 k (decide (a0_0 > 1125899906842624)) a0_0 l0_1)) = some r:=h
 clear h
 have HC2:=a_d.mk H
 clear H
 go_enter Try.func26,Try.ntmps26
 go_upto_region 1 with (first|((with_reducible refine a_J (N:=1) rfl ?_);refine a_C ?hg (N:=1) ?hd (cs:=#[.int .i64 a0_0,.slice A0_1 l0_1.length c0_1]) (t:=27) ?hr ?_;(case hd => rfl);(case hg => rfl);(case hr => first|(go_simp;done)|(go_simp;rfl));intro c_3 hg w3 hbox hb;have b_o:=a_d.mk (hbox);have G_R:=a_d.mk ((by rw [hg];exact (a_n (lup_ HB.out)) : w.heap.size ≤ c_3));have d_b:=a_d.mk ((by rw [hg];exact (a_n (lup_ HB.out)) : w.heap.size ≤ c_3));replace HB:=a_d.mk (a_o (lup_ HB.out) hb);clear hb hbox hg))
 (try simp only [Act.put,sa_,sb_,sc_])
 go_cut [15] (fun v15 wc => ∃ (kq : Nat) (x15_1 : Bool),v15 = .bool x15_1 ∧ a_d (a_k.j0 kq x15_1 a0_0 l0_1 = some r) ∧ a_d (kq ≤ k) ∧ a_d (wc.heap[c_3]? = some (.cells #[.int .i64 a0_0,(.slice A0_1 l0_1.length c0_1)] 27 (0,0))) ∧ a_d (Below w.heap.size w wc))
 case first =>
  have H:=HC2.out
  clear HC2
  by_cases c4 : a0_0 < 0
  ·rw [if_pos c4] at H
   have c4b0 : decide (a0_0 < 0) = true:=decide_eq_true c4
   clear c4
   (first|rw [c4b0]|(simp only [a_t,a_u];rw [c4b0])|skip)
   have H':=a_d.mk H
   clear H
   have f_f : w3.cell? ⟨c_3,0,none⟩ = some (.int .i64 a0_0):=(a_a b_o.out 0).trans rfl
   have f_g : w3.cell? ⟨c_3,1,none⟩ = some (.slice A0_1 l0_1.length c0_1):=(a_a b_o.out 1).trans rfl
   have f_h:=a_b b_o.out 0
   have f_i:=a_b b_o.out 1
   go_wp2
   go_meet
   case rel => exact ⟨_,(true),(by first|rfl|(simp;done)|(simp [*];done)),H',⟨by first|omega|exact Nat.le_refl _⟩,⟨by (with_reducible repeat (first|refine a_l ?_ _|refine a_m ?_|refine a_j ?_ _));exact b_o.out⟩,⟨by repeat (first|(with_reducible first|exact HB.out|apply a_g|apply a_e|apply a_h|refine a_f ?_ d_b.out)|exact HB.out)⟩⟩
  rw [if_neg c4] at H
  have c4b0 : decide (a0_0 < 0) = false:=decide_eq_false c4
  clear c4
  (first|rw [c4b0]|(simp only [a_t,a_u];rw [c4b0])|skip)
  have H':=a_d.mk H
  clear H
  have m_O : w3.cell? ⟨c_3,0,none⟩ = some (.int .i64 a0_0):=(a_a b_o.out 0).trans rfl
  have m_P : w3.cell? ⟨c_3,1,none⟩ = some (.slice A0_1 l0_1.length c0_1):=(a_a b_o.out 1).trans rfl
  have m_Q:=a_b b_o.out 0
  have m_R:=a_b b_o.out 1
  go_wp2
  go_meet
  case rel => exact ⟨_,(decide (a0_0 > 1125899906842624)),(by first|rfl|(simp;done)|(simp [*];done)),H',⟨by first|omega|exact Nat.le_refl _⟩,⟨by (with_reducible repeat (first|refine a_l ?_ _|refine a_m ?_|refine a_j ?_ _));exact b_o.out⟩,⟨by repeat (first|(with_reducible first|exact HB.out|apply a_g|apply a_e|apply a_h|refine a_f ?_ d_b.out)|exact HB.out)⟩⟩
 case rest =>
  clear HC2
  try clear c2
  try clear p2
  try clear c4
  try clear c4b0
  try clear f_f
  try clear f_g
  try clear m_O
  try clear m_P
  try clear f_h
  try clear f_i
  try clear m_Q
  try clear m_R
  obtain ⟨kq,x15_1,rfl,HA,HJ1,b_o,HB⟩:=hcut
  cases kq with
  | zero => exact absurd HA.out (by simp [a_k.j0])
  | succ kj1 =>
   have H:=HA.out
   clear HA
   simp only [a_k.j0] at H
   by_cases c7 : x15_1 = true
   ·subst c7
    have H1 : (some false) = some r:=by rw [if_pos rfl] at H;exact H
    clear H
    have H:=H1
    clear H1
    obtain rfl:=Option.some.inj H
    go_wp2
    go_ret
    exact ⟨by first|rfl|(simp [a_w,a_x] <;> rfl)|(simp [*, a_w,a_x] <;> rfl),by repeat (first|(with_reducible first|exact HB.out|apply a_g|apply a_e|apply a_h|refine a_f ?_ d_b.out)|exact HB.out)⟩
   replace c7:=Bool.eq_false_iff.mpr c7
   subst c7
   have H1 : (a_k.l0 kj1 0 a0_0 l0_1) = some r:=by rw [if_neg (show ¬ (false = true) by decide)] at H;exact H
   clear H
   have H:=H1
   clear H1
   have H':=a_d.mk H
   clear H
   go_wp2
   go_loopg [3] kj1 (fun kq v3 w' => ∃ (x3_2 : Int),v3 = .int .i64 x3_2 ∧ a_d (a_k.l0 kq x3_2 a0_0 l0_1 = some r) ∧ a_d (kq ≤ kj1) ∧ a_d (w'.heap[c_3]? = some (.cells #[.int .i64 a0_0,(.slice A0_1 l0_1.length c0_1)] 27 (0,0))) ∧ a_d (Below w.heap.size w w'))
   case atStart => exact ⟨(0),(by first|rfl|(simp;done)|(simp [*];done)),H',⟨Nat.le_refl _⟩,⟨by (with_reducible repeat (first|refine a_l ?_ _|refine a_m ?_|refine a_j ?_ _));exact b_o.out⟩,⟨by repeat (first|(with_reducible first|exact HB.out|apply a_g|apply a_e|apply a_h|refine a_f ?_ d_b.out)|exact HB.out)⟩⟩
   case round =>
    clear H'
    try clear c2
    try clear p2
    try clear c4
    try clear c4b0
    try clear c7
    try clear f_f
    try clear f_g
    try clear m_O
    try clear m_P
    try clear f_h
    try clear f_i
    try clear m_Q
    try clear m_R
    try clear p2
    obtain ⟨x3_2,rfl,HA,HK2,b_o,HB⟩:=hrel
    cases gk with
    | zero => exact absurd HA.out (by simp [a_k.l0])
    | succ k2 =>
     have H:=HA.out
     clear HA
     simp only [a_k.l0] at H
     by_cases c8 : x3_2 < (l0_1.length : Int)
     rotate_left
     ·rw [if_neg c8] at H
      have c8b0 : decide (x3_2 < (l0_1.length : Int)) = false:=decide_eq_false c8
      clear c8
      obtain rfl:=Option.some.inj H
      have t_f : wr.cell? ⟨c_3,0,none⟩ = some (.int .i64 a0_0):=(a_a b_o.out 0).trans rfl
      have t_g : wr.cell? ⟨c_3,1,none⟩ = some (.slice A0_1 l0_1.length c0_1):=(a_a b_o.out 1).trans rfl
      have t_h:=a_b b_o.out 0
      have t_i:=a_b b_o.out 1
      go_wp2
      go_ret
      exact ⟨by first|rfl|(simp [a_w,a_x] <;> rfl)|(simp [*, a_w,a_x] <;> rfl),by repeat (first|(with_reducible first|exact HB.out|apply a_g|apply a_e|apply a_h|refine a_f ?_ d_b.out)|exact HB.out)⟩
     rw [if_pos c8] at H
     have c8b0 : decide (x3_2 < (l0_1.length : Int)) = true:=decide_eq_true c8
     clear c8
     by_cases c9 : 0 ≤ x3_2
     rotate_left
     ·rw [if_neg c9] at H
      exact absurd H (by simp)
     rw [if_pos c9] at H
     have c9b0 : decide (0 ≤ x3_2) = true:=decide_eq_true c9
     clear c9
     have HC10:=a_d.mk H
     clear H
     have l_p : wr.cell? ⟨c_3,0,none⟩ = some (.int .i64 a0_0):=(a_a b_o.out 0).trans rfl
     have l_q : wr.cell? ⟨c_3,1,none⟩ = some (.slice A0_1 l0_1.length c0_1):=(a_a b_o.out 1).trans rfl
     have l_r:=a_b b_o.out 0
     have h_Q:=a_b b_o.out 1
     have p213 : 0 ≤ (x3_2 : Int):=of_decide_eq_true (by first|(with_reducible assumption)|assumption)
     have q213 : x3_2 < (l0_1.length : Int):=of_decide_eq_true (by first|(with_reducible assumption)|assumption)
     obtain ⟨ad213,e213,h_R,h_S,h_T,h_U,h_V,h_W,h_X,h_Y,h_Z,h_0,g_N⟩:=d_g d_i.out x3_2 p213 q213
     cases e213
     replace h_R:=(HB.out.cell (World.block_lt_of_cell? w _ h_R)).trans h_R
     replace h_S:=(HB.out.cell (World.block_lt_of_cell? w _ h_S)).trans h_S
     replace h_T:=(HB.out.cell (World.block_lt_of_cell? w _ h_T)).trans h_T
     replace h_U:=(HB.out.cell (World.block_lt_of_cell? w _ h_U)).trans h_U
     replace h_V:=(HB.out.cell (World.block_lt_of_cell? w _ h_V)).trans h_V
     replace h_W:=(HB.out.cell (World.block_lt_of_cell? w _ h_W)).trans h_W
     replace h_X:=(HB.out.cell (World.block_lt_of_cell? w _ h_X)).trans h_X
     replace h_Y:=(HB.out.cell (World.block_lt_of_cell? w _ h_Y)).trans h_Y
     replace h_Z:=(HB.out.cell (World.block_lt_of_cell? w _ h_Z)).trans h_Z
     replace h_0:=(HB.out.cell (World.block_lt_of_cell? w _ h_0)).trans h_0
     replace g_N:=(HB.out.cell (World.block_lt_of_cell? w _ g_N)).trans g_N
     replace p213:=eq_true p213
     replace q213:=eq_true q213
     go_upto_region 7 with (first|((with_reducible refine a_J (N:=4) rfl ?_);refine a_C ?hg (N:=4) ?hd (cs:=#[.int .i64 0,.int .i64 0,.int .i64 0,.int .i64 0,.int .i64 0,.bool false,.bool false,.int .u32 0,.int .i64 0,.int .i64 0,.int .i64 0]) (t:=65) ?hr ?_;(case hd => rfl);(case hg => rfl);(case hr => first|(go_simp;done)|(go_simp;rfl));intro a_P hg w12 hbox hb;have a_N:=a_d.mk (hbox);have G_S:=a_d.mk ((by rw [hg];exact (a_n (by repeat (first|(with_reducible first|exact HB.out|apply a_g|apply a_e|apply a_h|refine a_f ?_ d_b.out)|exact HB.out))) : w.heap.size ≤ a_P));have d_Q:=a_d.mk ((by rw [hg];exact (a_n (by repeat (first|(with_reducible first|exact HB.out|apply a_g|apply a_e|apply a_h|refine a_f ?_ d_b.out)|exact HB.out))) : w.heap.size ≤ a_P));have b_h:=a_d.mk ((by rw [hg];exact Nat.ne_of_lt (a_Q (bup_ b_o.out)) : c_3 ≠ a_P));have e_o:=a_d.mk ((by rw [hg];exact Nat.ne_of_gt (a_Q (bup_ b_o.out)) : a_P ≠ c_3));replace b_o:=a_d.mk (a_i (bup_ b_o.out) hb);replace HB:=a_d.mk (a_o (by repeat (first|(with_reducible first|exact HB.out|apply a_g|apply a_e|apply a_h|refine a_f ?_ d_b.out)|exact HB.out)) hb);clear hb hbox hg;have z_G:=e_o.out;have z_H:=b_h.out;have i_a : w12.cell? ⟨a_P,0,none⟩ = some (.int .i64 0):=(a_a a_N.out 0).trans rfl;have i_b : w12.cell? ⟨a_P,1,none⟩ = some (.int .i64 0):=(a_a a_N.out 1).trans rfl;have i_d : w12.cell? ⟨a_P,2,none⟩ = some (.int .i64 0):=(a_a a_N.out 2).trans rfl;have i_e : w12.cell? ⟨a_P,3,none⟩ = some (.int .i64 0):=(a_a a_N.out 3).trans rfl;have i_f : w12.cell? ⟨a_P,4,none⟩ = some (.int .i64 0):=(a_a a_N.out 4).trans rfl;have i_g : w12.cell? ⟨a_P,5,none⟩ = some (.bool false):=(a_a a_N.out 5).trans rfl;have i_h : w12.cell? ⟨a_P,6,none⟩ = some (.bool false):=(a_a a_N.out 6).trans rfl;have i_i : w12.cell? ⟨a_P,7,none⟩ = some (.int .u32 0):=(a_a a_N.out 7).trans rfl;have i_j : w12.cell? ⟨a_P,8,none⟩ = some (.int .i64 0):=(a_a a_N.out 8).trans rfl;have i_k : w12.cell? ⟨a_P,9,none⟩ = some (.int .i64 0):=(a_a a_N.out 9).trans rfl;have g_O : w12.cell? ⟨a_P,10,none⟩ = some (.int .i64 0):=(a_a a_N.out 10).trans rfl;have i_l:=a_b a_N.out 0;have i_m:=a_b a_N.out 1;have i_n:=a_b a_N.out 2;have i_o:=a_b a_N.out 3;have i_p:=a_b a_N.out 4;have i_q:=a_b a_N.out 5;have i_r:=a_b a_N.out 6;have i_s:=a_b a_N.out 7;have i_t:=a_b a_N.out 8;have i_u:=a_b a_N.out 9;have g_P:=a_b a_N.out 10))
     (try simp only [Act.put,sa_,sb_,sc_])
     go_cut [46] (fun v46 wc => ∃ (kq : Nat) (x46_9 : Bool),v46 = .bool x46_9 ∧ a_d (a_k.j2 kq x3_2 x46_9 a0_0 l0_1 ((a_c l0_1 x3_2).f0) ((a_c l0_1 x3_2).f1) ((a_c l0_1 x3_2).f2) ((a_c l0_1 x3_2).f3) ((a_c l0_1 x3_2).f4) ((a_c l0_1 x3_2).f5) ((a_c l0_1 x3_2).f6) ((a_c l0_1 x3_2).f7) ((a_c l0_1 x3_2).f8) ((a_c l0_1 x3_2).f9) ((a_c l0_1 x3_2).f10) = some r) ∧ a_d (kq ≤ k2) ∧ a_d (wc.heap[c_3]? = some (.cells #[.int .i64 a0_0,(.slice (some ad213) l0_1.length c0_1)] 27 (0,0))) ∧ a_d (wc.heap[a_P]? = some (.cells #[.int .i64 ((a_c l0_1 x3_2).f0),.int .i64 ((a_c l0_1 x3_2).f1),.int .i64 ((a_c l0_1 x3_2).f2),.int .i64 ((a_c l0_1 x3_2).f3),.int .i64 ((a_c l0_1 x3_2).f4),.bool ((a_c l0_1 x3_2).f5),.bool ((a_c l0_1 x3_2).f6),.int .u32 ((a_c l0_1 x3_2).f7),.int .i64 ((a_c l0_1 x3_2).f8),.int .i64 ((a_c l0_1 x3_2).f9),.int .i64 ((a_c l0_1 x3_2).f10)] 65 (0,0))) ∧ a_d (Below w.heap.size w wc))
     case first =>
      have H:=HC10.out
      clear HC10
      replace H:=Option.bind_eq_some_iff.mp H
      obtain ⟨t215,A150,H⟩:=H
      replace H : (if t215 = true then (if x3_2 > 0 then (if 0 ≤ (wrap64 (x3_2 - 1)) then (if (wrap64 (x3_2 - 1)) < (l0_1.length : Int) then (a_k.j2 k2 x3_2 (decide (((a_c l0_1 (wrap64 (x3_2 - 1))).f0) ≥ ((a_c l0_1 x3_2).f0))) a0_0 l0_1 ((a_c l0_1 x3_2).f0) ((a_c l0_1 x3_2).f1) ((a_c l0_1 x3_2).f2) ((a_c l0_1 x3_2).f3) ((a_c l0_1 x3_2).f4) ((a_c l0_1 x3_2).f5) ((a_c l0_1 x3_2).f6) ((a_c l0_1 x3_2).f7) ((a_c l0_1 x3_2).f8) ((a_c l0_1 x3_2).f9) ((a_c l0_1 x3_2).f10)) else (none)) else (none)) else (a_k.j2 k2 x3_2 false a0_0 l0_1 ((a_c l0_1 x3_2).f0) ((a_c l0_1 x3_2).f1) ((a_c l0_1 x3_2).f2) ((a_c l0_1 x3_2).f3) ((a_c l0_1 x3_2).f4) ((a_c l0_1 x3_2).f5) ((a_c l0_1 x3_2).f6) ((a_c l0_1 x3_2).f7) ((a_c l0_1 x3_2).f8) ((a_c l0_1 x3_2).f9) ((a_c l0_1 x3_2).f10))) else (a_k.j2 k2 x3_2 true a0_0 l0_1 ((a_c l0_1 x3_2).f0) ((a_c l0_1 x3_2).f1) ((a_c l0_1 x3_2).f2) ((a_c l0_1 x3_2).f3) ((a_c l0_1 x3_2).f4) ((a_c l0_1 x3_2).f5) ((a_c l0_1 x3_2).f6) ((a_c l0_1 x3_2).f7) ((a_c l0_1 x3_2).f8) ((a_c l0_1 x3_2).f9) ((a_c l0_1 x3_2).f10))) = some r:=H
      have A15:=a_d.mk A150
      clear A150
      by_cases c16 : t215 = true
      rotate_left
      ·replace c16:=Bool.eq_false_iff.mpr c16
       subst c16
       have H1 : (a_k.j2 k2 x3_2 true a0_0 l0_1 ((a_c l0_1 x3_2).f0) ((a_c l0_1 x3_2).f1) ((a_c l0_1 x3_2).f2) ((a_c l0_1 x3_2).f3) ((a_c l0_1 x3_2).f4) ((a_c l0_1 x3_2).f5) ((a_c l0_1 x3_2).f6) ((a_c l0_1 x3_2).f7) ((a_c l0_1 x3_2).f8) ((a_c l0_1 x3_2).f9) ((a_c l0_1 x3_2).f10)) = some r:=by rw [if_neg (show ¬ (false = true) by decide)] at H;exact H
       clear H
       have H:=H1
       clear H1
       have H':=a_d.mk H
       clear H
       try go_wp2
       have n0_ : a_d ((((((((((((w12.setCell ⟨a_P,0,none⟩ (.int .i64 ((a_c l0_1 x3_2).f0))).setCell ⟨a_P,1,none⟩ (.int .i64 ((a_c l0_1 x3_2).f1))).setCell ⟨a_P,2,none⟩ (.int .i64 ((a_c l0_1 x3_2).f2))).setCell ⟨a_P,3,none⟩ (.int .i64 ((a_c l0_1 x3_2).f3))).setCell ⟨a_P,4,none⟩ (.int .i64 ((a_c l0_1 x3_2).f4))).setCell ⟨a_P,5,none⟩ (.bool ((a_c l0_1 x3_2).f5))).setCell ⟨a_P,6,none⟩ (.bool ((a_c l0_1 x3_2).f6))).setCell ⟨a_P,7,none⟩ (.int .u32 ((a_c l0_1 x3_2).f7))).setCell ⟨a_P,8,none⟩ (.int .i64 ((a_c l0_1 x3_2).f8))).setCell ⟨a_P,9,none⟩ (.int .i64 ((a_c l0_1 x3_2).f9))).setCell ⟨a_P,10,none⟩ (.int .i64 ((a_c l0_1 x3_2).f10))).heap[c_3]? = some (.cells #[.int .i64 a0_0,.slice (some ad213) l0_1.length c0_1] 27 (0,0))):=⟨by (with_reducible repeat (first|refine a_l ?_ _|refine a_m ?_|refine a_j ?_ _));refine a_L ?_ b_h.out _;(with_reducible repeat (first|refine a_l ?_ _|refine a_m ?_|refine a_j ?_ _));refine a_L ?_ b_h.out _;(with_reducible repeat (first|refine a_l ?_ _|refine a_m ?_|refine a_j ?_ _));refine a_L ?_ b_h.out _;(with_reducible repeat (first|refine a_l ?_ _|refine a_m ?_|refine a_j ?_ _));refine a_L ?_ b_h.out _;(with_reducible repeat (first|refine a_l ?_ _|refine a_m ?_|refine a_j ?_ _));refine a_L ?_ b_h.out _;(with_reducible repeat (first|refine a_l ?_ _|refine a_m ?_|refine a_j ?_ _));refine a_L ?_ b_h.out _;(with_reducible repeat (first|refine a_l ?_ _|refine a_m ?_|refine a_j ?_ _));refine a_L ?_ b_h.out _;(with_reducible repeat (first|refine a_l ?_ _|refine a_m ?_|refine a_j ?_ _));refine a_L ?_ b_h.out _;(with_reducible repeat (first|refine a_l ?_ _|refine a_m ?_|refine a_j ?_ _));refine a_L ?_ b_h.out _;(with_reducible repeat (first|refine a_l ?_ _|refine a_m ?_|refine a_j ?_ _));refine a_L ?_ b_h.out _;(with_reducible repeat (first|refine a_l ?_ _|refine a_m ?_|refine a_j ?_ _));refine a_L ?_ b_h.out _;(with_reducible repeat (first|refine a_l ?_ _|refine a_m ?_|refine a_j ?_ _));exact b_o.out⟩
       have n1_ : a_d ((((((((((((w12.setCell ⟨a_P,0,none⟩ (.int .i64 ((a_c l0_1 x3_2).f0))).setCell ⟨a_P,1,none⟩ (.int .i64 ((a_c l0_1 x3_2).f1))).setCell ⟨a_P,2,none⟩ (.int .i64 ((a_c l0_1 x3_2).f2))).setCell ⟨a_P,3,none⟩ (.int .i64 ((a_c l0_1 x3_2).f3))).setCell ⟨a_P,4,none⟩ (.int .i64 ((a_c l0_1 x3_2).f4))).setCell ⟨a_P,5,none⟩ (.bool ((a_c l0_1 x3_2).f5))).setCell ⟨a_P,6,none⟩ (.bool ((a_c l0_1 x3_2).f6))).setCell ⟨a_P,7,none⟩ (.int .u32 ((a_c l0_1 x3_2).f7))).setCell ⟨a_P,8,none⟩ (.int .i64 ((a_c l0_1 x3_2).f8))).setCell ⟨a_P,9,none⟩ (.int .i64 ((a_c l0_1 x3_2).f9))).setCell ⟨a_P,10,none⟩ (.int .i64 ((a_c l0_1 x3_2).f10))).heap[a_P]? = some (.cells #[.int .i64 ((a_c l0_1 x3_2).f0),.int .i64 ((a_c l0_1 x3_2).f1),.int .i64 ((a_c l0_1 x3_2).f2),.int .i64 ((a_c l0_1 x3_2).f3),.int .i64 ((a_c l0_1 x3_2).f4),.bool ((a_c l0_1 x3_2).f5),.bool ((a_c l0_1 x3_2).f6),.int .u32 ((a_c l0_1 x3_2).f7),.int .i64 ((a_c l0_1 x3_2).f8),.int .i64 ((a_c l0_1 x3_2).f9),.int .i64 ((a_c l0_1 x3_2).f10)] 65 (0,0))):=⟨by (with_reducible repeat (first|refine a_l ?_ _|refine a_m ?_|refine a_j ?_ _));refine a_R (cs:=#[.int .i64 ((a_c l0_1 x3_2).f0),.int .i64 ((a_c l0_1 x3_2).f1),.int .i64 ((a_c l0_1 x3_2).f2),.int .i64 ((a_c l0_1 x3_2).f3),.int .i64 ((a_c l0_1 x3_2).f4),.bool ((a_c l0_1 x3_2).f5),.bool ((a_c l0_1 x3_2).f6),.int .u32 ((a_c l0_1 x3_2).f7),.int .i64 ((a_c l0_1 x3_2).f8),.int .i64 ((a_c l0_1 x3_2).f9),.int .i64 0]) ?_ 10 _ rfl;(with_reducible repeat (first|refine a_l ?_ _|refine a_m ?_|refine a_j ?_ _));refine a_R (cs:=#[.int .i64 ((a_c l0_1 x3_2).f0),.int .i64 ((a_c l0_1 x3_2).f1),.int .i64 ((a_c l0_1 x3_2).f2),.int .i64 ((a_c l0_1 x3_2).f3),.int .i64 ((a_c l0_1 x3_2).f4),.bool ((a_c l0_1 x3_2).f5),.bool ((a_c l0_1 x3_2).f6),.int .u32 ((a_c l0_1 x3_2).f7),.int .i64 ((a_c l0_1 x3_2).f8),.int .i64 0,.int .i64 0]) ?_ 9 _ rfl;(with_reducible repeat (first|refine a_l ?_ _|refine a_m ?_|refine a_j ?_ _));refine a_R (cs:=#[.int .i64 ((a_c l0_1 x3_2).f0),.int .i64 ((a_c l0_1 x3_2).f1),.int .i64 ((a_c l0_1 x3_2).f2),.int .i64 ((a_c l0_1 x3_2).f3),.int .i64 ((a_c l0_1 x3_2).f4),.bool ((a_c l0_1 x3_2).f5),.bool ((a_c l0_1 x3_2).f6),.int .u32 ((a_c l0_1 x3_2).f7),.int .i64 0,.int .i64 0,.int .i64 0]) ?_ 8 _ rfl;(with_reducible repeat (first|refine a_l ?_ _|refine a_m ?_|refine a_j ?_ _));refine a_R (cs:=#[.int .i64 ((a_c l0_1 x3_2).f0),.int .i64 ((a_c l0_1 x3_2).f1),.int .i64 ((a_c l0_1 x3_2).f2),.int .i64 ((a_c l0_1 x3_2).f3),.int .i64 ((a_c l0_1 x3_2).f4),.bool ((a_c l0_1 x3_2).f5),.bool ((a_c l0_1 x3_2).f6),.int .u32 0,.int .i64 0,.int .i64 0,.int .i64 0]) ?_ 7 _ rfl;(with_reducible repeat (first|refine a_l ?_ _|refine a_m ?_|refine a_j ?_ _));refine a_R (cs:=#[.int .i64 ((a_c l0_1 x3_2).f0),.int .i64 ((a_c l0_1 x3_2).f1),.int .i64 ((a_c l0_1 x3_2).f2),.int .i64 ((a_c l0_1 x3_2).f3),.int .i64 ((a_c l0_1 x3_2).f4),.bool ((a_c l0_1 x3_2).f5),.bool false,.int .u32 0,.int .i64 0,.int .i64 0,.int .i64 0]) ?_ 6 _ rfl;(with_reducible repeat (first|refine a_l ?_ _|refine a_m ?_|refine a_j ?_ _));refine a_R (cs:=#[.int .i64 ((a_c l0_1 x3_2).f0),.int .i64 ((a_c l0_1 x3_2).f1),.int .i64 ((a_c l0_1 x3_2).f2),.int .i64 ((a_c l0_1 x3_2).f3),.int .i64 ((a_c l0_1 x3_2).f4),.bool false,.bool false,.int .u32 0,.int .i64 0,.int .i64 0,.int .i64 0]) ?_ 5 _ rfl;(with_reducible repeat (first|refine a_l ?_ _|refine a_m ?_|refine a_j ?_ _));refine a_R (cs:=#[.int .i64 ((a_c l0_1 x3_2).f0),.int .i64 ((a_c l0_1 x3_2).f1),.int .i64 ((a_c l0_1 x3_2).f2),.int .i64 ((a_c l0_1 x3_2).f3),.int .i64 0,.bool false,.bool false,.int .u32 0,.int .i64 0,.int .i64 0,.int .i64 0]) ?_ 4 _ rfl;(with_reducible repeat (first|refine a_l ?_ _|refine a_m ?_|refine a_j ?_ _));refine a_R (cs:=#[.int .i64 ((a_c l0_1 x3_2).f0),.int .i64 ((a_c l0_1 x3_2).f1),.int .i64 ((a_c l0_1 x3_2).f2),.int .i64 0,.int .i64 0,.bool false,.bool false,.int .u32 0,.int .i64 0,.int .i64 0,.int .i64 0]) ?_ 3 _ rfl;(with_reducible repeat (first|refine a_l ?_ _|refine a_m ?_|refine a_j ?_ _));refine a_R (cs:=#[.int .i64 ((a_c l0_1 x3_2).f0),.int .i64 ((a_c l0_1 x3_2).f1),.int .i64 0,.int .i64 0,.int .i64 0,.bool false,.bool false,.int .u32 0,.int .i64 0,.int .i64 0,.int .i64 0]) ?_ 2 _ rfl;(with_reducible repeat (first|refine a_l ?_ _|refine a_m ?_|refine a_j ?_ _));refine a_R (cs:=#[.int .i64 ((a_c l0_1 x3_2).f0),.int .i64 0,.int .i64 0,.int .i64 0,.int .i64 0,.bool false,.bool false,.int .u32 0,.int .i64 0,.int .i64 0,.int .i64 0]) ?_ 1 _ rfl;(with_reducible repeat (first|refine a_l ?_ _|refine a_m ?_|refine a_j ?_ _));refine a_R (cs:=#[.int .i64 0,.int .i64 0,.int .i64 0,.int .i64 0,.int .i64 0,.bool false,.bool false,.int .u32 0,.int .i64 0,.int .i64 0,.int .i64 0]) ?_ 0 _ rfl;(with_reducible repeat (first|refine a_l ?_ _|refine a_m ?_|refine a_j ?_ _));exact a_N.out⟩
       have n2_ : a_d (Below w.heap.size w (((((((((((w12.setCell ⟨a_P,0,none⟩ (.int .i64 ((a_c l0_1 x3_2).f0))).setCell ⟨a_P,1,none⟩ (.int .i64 ((a_c l0_1 x3_2).f1))).setCell ⟨a_P,2,none⟩ (.int .i64 ((a_c l0_1 x3_2).f2))).setCell ⟨a_P,3,none⟩ (.int .i64 ((a_c l0_1 x3_2).f3))).setCell ⟨a_P,4,none⟩ (.int .i64 ((a_c l0_1 x3_2).f4))).setCell ⟨a_P,5,none⟩ (.bool ((a_c l0_1 x3_2).f5))).setCell ⟨a_P,6,none⟩ (.bool ((a_c l0_1 x3_2).f6))).setCell ⟨a_P,7,none⟩ (.int .u32 ((a_c l0_1 x3_2).f7))).setCell ⟨a_P,8,none⟩ (.int .i64 ((a_c l0_1 x3_2).f8))).setCell ⟨a_P,9,none⟩ (.int .i64 ((a_c l0_1 x3_2).f9))).setCell ⟨a_P,10,none⟩ (.int .i64 ((a_c l0_1 x3_2).f10)))):=⟨by repeat (first|(with_reducible first|exact HB.out|apply a_g|apply a_e|apply a_h|refine a_f ?_ d_b.out|refine a_f ?_ d_Q.out)|exact HB.out)⟩
       (try clear b_o)
       (try clear a_N)
       (try clear HB)
       generalize (((((((((((w12.setCell ⟨a_P,0,none⟩ (.int .i64 ((a_c l0_1 x3_2).f0))).setCell ⟨a_P,1,none⟩ (.int .i64 ((a_c l0_1 x3_2).f1))).setCell ⟨a_P,2,none⟩ (.int .i64 ((a_c l0_1 x3_2).f2))).setCell ⟨a_P,3,none⟩ (.int .i64 ((a_c l0_1 x3_2).f3))).setCell ⟨a_P,4,none⟩ (.int .i64 ((a_c l0_1 x3_2).f4))).setCell ⟨a_P,5,none⟩ (.bool ((a_c l0_1 x3_2).f5))).setCell ⟨a_P,6,none⟩ (.bool ((a_c l0_1 x3_2).f6))).setCell ⟨a_P,7,none⟩ (.int .u32 ((a_c l0_1 x3_2).f7))).setCell ⟨a_P,8,none⟩ (.int .i64 ((a_c l0_1 x3_2).f8))).setCell ⟨a_P,9,none⟩ (.int .i64 ((a_c l0_1 x3_2).f9))).setCell ⟨a_P,10,none⟩ (.int .i64 ((a_c l0_1 x3_2).f10))) = w27 at n0_ n1_ n2_ ⊢
       have b_o:=n0_
       have a_N:=n1_
       have HB:=n2_
       clear n0_ n1_ n2_
       replace b_o:=a_d.mk (a_m b_o.out)
       replace a_N:=a_d.mk (a_m a_N.out)
       replace HB:=a_d.mk (a_h HB.out)
       refine c_9 (n:=19) (S:=fun w' => w'.cell? ⟨a_P,0,none⟩ = some (.int .i64 ((a_c l0_1 x3_2).f0)) ∧ w'.cell? ⟨a_P,1,none⟩ = some (.int .i64 ((a_c l0_1 x3_2).f1)) ∧ w'.cell? ⟨a_P,2,none⟩ = some (.int .i64 ((a_c l0_1 x3_2).f2)) ∧ w'.cell? ⟨a_P,3,none⟩ = some (.int .i64 ((a_c l0_1 x3_2).f3)) ∧ w'.cell? ⟨a_P,4,none⟩ = some (.int .i64 ((a_c l0_1 x3_2).f4)) ∧ w'.cell? ⟨a_P,5,none⟩ = some (.bool ((a_c l0_1 x3_2).f5)) ∧ w'.cell? ⟨a_P,6,none⟩ = some (.bool ((a_c l0_1 x3_2).f6)) ∧ w'.cell? ⟨a_P,7,none⟩ = some (.int .u32 ((a_c l0_1 x3_2).f7)) ∧ w'.cell? ⟨a_P,8,none⟩ = some (.int .i64 ((a_c l0_1 x3_2).f8)) ∧ w'.cell? ⟨a_P,9,none⟩ = some (.int .i64 ((a_c l0_1 x3_2).f9)) ∧ w'.cell? ⟨a_P,10,none⟩ = some (.int .i64 ((a_c l0_1 x3_2).f10))) (ds:=[]) Z3_ (by kernel_rfl) rfl rfl ⟨(a_a a_N.out 0).trans rfl,(a_a a_N.out 1).trans rfl,(a_a a_N.out 2).trans rfl,(a_a a_N.out 3).trans rfl,(a_a a_N.out 4).trans rfl,(a_a a_N.out 5).trans rfl,(a_a a_N.out 6).trans rfl,(a_a a_N.out 7).trans rfl,(a_a a_N.out 8).trans rfl,(a_a a_N.out 9).trans rfl,(a_a a_N.out 10).trans rfl⟩ (fun hHeld => ?_);refine b_P a_k.tab7 a_k.k_l (fun HT_ HW_ => ?_)
       generalize w27.drew = w28 at b_o a_N HB hHeld ⊢
       refine b_l (i:=0) (N:=some 28) (v:=?_) (a':=?_) Z7_ rfl rfl (a_O HT_.out HW_.out (by kernel_rfl)) (fun _ _ _ h => h) (Or.inl ⟨by rfl,?_⟩) hHeld ?_ ?_
       rotate_left
       ·rintro w' ⟨s0,s1,s2,s3,s4,s5,s6,s7,s8,s9,s10⟩
        go_simp
        with_reducible rfl
       rotate_left
       ·simp only [Act.put,sa_,sb_,sc_,a_t,a_u]
        rfl
       refine one_ (i:=1) (N:=some 29) Z11_ rfl rfl (b_7 HT_.out (by kernel_rfl)) (by decide) (fun K hK => ?_)
       refine d_O Try.func54 (by kernel_rfl) rfl #[.agg #[.int .i64 ((a_c l0_1 x3_2).f0),.int .i64 ((a_c l0_1 x3_2).f1),.int .i64 ((a_c l0_1 x3_2).f2),.int .i64 ((a_c l0_1 x3_2).f3),.int .i64 ((a_c l0_1 x3_2).f4),.bool ((a_c l0_1 x3_2).f5),.bool ((a_c l0_1 x3_2).f6),.int .u32 ((a_c l0_1 x3_2).f7),.int .i64 ((a_c l0_1 x3_2).f8),.int .i64 ((a_c l0_1 x3_2).f9),.int .i64 ((a_c l0_1 x3_2).f10)]] (by rfl) rfl rfl (by (try simp only [List.map_toArray,List.map_cons,List.map_nil]);first|done|rfl|(simp only [List.length_drop,List.length_take];rfl)) ?_
       with_reducible refine (b_D.calls ((a_c l0_1 x3_2).f0) ((a_c l0_1 x3_2).f1) ((a_c l0_1 x3_2).f2) ((a_c l0_1 x3_2).f3) ((a_c l0_1 x3_2).f4) ((a_c l0_1 x3_2).f5) ((a_c l0_1 x3_2).f6) ((a_c l0_1 x3_2).f7) ((a_c l0_1 x3_2).f8) ((a_c l0_1 x3_2).f9) ((a_c l0_1 x3_2).f10) false _ A15.out).mono ?_
       rintro e w29 ⟨rfl,hb⟩
       refine ⟨_,rfl,?_⟩
       replace b_o:=a_d.mk (a_i (bup_ b_o.out) hb)
       replace a_N:=a_d.mk (a_i (bup_ a_N.out) hb)
       replace HB:=a_d.mk (a_o (by repeat (first|(with_reducible first|exact HB.out|apply a_g|apply a_e|apply a_h|refine a_f ?_ d_b.out|refine a_f ?_ d_Q.out)|exact HB.out)) hb)
       (try clear hb)
       (try clear hb2)
       (try clear hk)
       (try clear hi)
       refine hK.out _ _ ⟨(a_a a_N.out 0).trans rfl,(a_a a_N.out 1).trans rfl,(a_a a_N.out 2).trans rfl,(a_a a_N.out 3).trans rfl,(a_a a_N.out 4).trans rfl,(a_a a_N.out 5).trans rfl,(a_a a_N.out 6).trans rfl,(a_a a_N.out 7).trans rfl,(a_a a_N.out 8).trans rfl,(a_a a_N.out 9).trans rfl,(a_a a_N.out 10).trans rfl⟩ (fun hHeld => ?_)
       clear hK K
       refine d_A (a':=?_) ?_ ?_
       rotate_left
       ·show Act.put _ (some 29) _ = _
        simp only [Act.put,sa_,sb_,sc_,a_t,a_u]
        rfl
       refine a_z (i:=2) (N:=some 30) (v:=?_) (a':=?_) Z15_ rfl rfl (a_q HT_.out (by kernel_rfl)) (fun _ _ _ h => h) (Or.inl ⟨by rfl,?_⟩) ?_ ?_
       rotate_left
       ·intro w'
        go_simp
        with_reducible rfl
       rotate_left
       ·simp only [Act.put,sa_,sb_,sc_,a_t,a_u]
        rfl
       refine a_z (i:=3) (N:=some 31) (v:=?_) (a':=?_) Z19_ rfl rfl (a_q HT_.out (by kernel_rfl)) (fun _ _ _ h => h) (Or.inl ⟨by rfl,?_⟩) ?_ ?_
       rotate_left
       ·intro w'
        go_simp
        with_reducible rfl
       rotate_left
       ·simp only [Act.put,sa_,sb_,sc_,a_t,a_u]
        rfl
       refine a_z (i:=4) (N:=some 32) (v:=undef) (a':=?_) Z23_ rfl rfl (a_q HT_.out (by kernel_rfl)) (fun _ _ _ h => h) (Or.inr ⟨by rfl,rfl⟩) ?_ ?_
       rotate_left
       ·simp only [Act.put,sa_,sb_,sc_,a_t,a_u]
        rfl
       refine a_z (i:=5) (N:=some 33) (v:=undef) (a':=?_) Z27_ rfl rfl (a_q HT_.out (by kernel_rfl)) (fun _ _ _ h => h) (Or.inr ⟨by rfl,rfl⟩) ?_ ?_
       rotate_left
       ·simp only [Act.put,sa_,sb_,sc_,a_t,a_u]
        rfl
       refine a_z (i:=6) (N:=some 34) (v:=undef) (a':=?_) Z31_ rfl rfl (a_q HT_.out (by kernel_rfl)) (fun _ _ _ h => h) (Or.inr ⟨by rfl,rfl⟩) ?_ ?_
       rotate_left
       ·simp only [Act.put,sa_,sb_,sc_,a_t,a_u]
        rfl
       refine a_z (i:=7) (N:=some 35) (v:=undef) (a':=?_) Z35_ rfl rfl (a_q HT_.out (by kernel_rfl)) (fun _ _ _ h => h) (Or.inr ⟨by rfl,rfl⟩) ?_ ?_
       rotate_left
       ·simp only [Act.put,sa_,sb_,sc_,a_t,a_u]
        rfl
       refine a_z (i:=8) (N:=some 36) (v:=undef) (a':=?_) Z42_ rfl rfl (a_q HT_.out (by kernel_rfl)) (fun _ _ _ h => h) (Or.inr ⟨by rfl,rfl⟩) ?_ ?_
       rotate_left
       ·simp only [Act.put,sa_,sb_,sc_,a_t,a_u]
        rfl
       refine a_z (i:=9) (N:=some 37) (v:=undef) (a':=?_) Z47_ rfl rfl (a_q HT_.out (by kernel_rfl)) (fun _ _ _ h => h) (Or.inr ⟨by rfl,rfl⟩) ?_ ?_
       rotate_left
       ·simp only [Act.put,sa_,sb_,sc_,a_t,a_u]
        rfl
       refine a_z (i:=10) (N:=some 38) (v:=undef) (a':=?_) Z50_ rfl rfl (a_q HT_.out (by kernel_rfl)) (fun _ _ _ h => h) (Or.inr ⟨by rfl,rfl⟩) ?_ ?_
       rotate_left
       ·simp only [Act.put,sa_,sb_,sc_,a_t,a_u]
        rfl
       refine a_z (i:=11) (N:=some 39) (v:=undef) (a':=?_) Z55_ rfl rfl (a_q HT_.out (by kernel_rfl)) (fun _ _ _ h => h) (Or.inr ⟨by rfl,rfl⟩) ?_ ?_
       rotate_left
       ·simp only [Act.put,sa_,sb_,sc_,a_t,a_u]
        rfl
       refine a_z (i:=12) (N:=some 40) (v:=undef) (a':=?_) Z60_ rfl rfl (a_q HT_.out (by kernel_rfl)) (fun _ _ _ h => h) (Or.inr ⟨by rfl,rfl⟩) ?_ ?_
       rotate_left
       ·simp only [Act.put,sa_,sb_,sc_,a_t,a_u]
        rfl
       refine a_z (i:=13) (N:=some 41) (v:=undef) (a':=?_) Z65_ rfl rfl (a_q HT_.out (by kernel_rfl)) (fun _ _ _ h => h) (Or.inr ⟨by rfl,rfl⟩) ?_ ?_
       rotate_left
       ·simp only [Act.put,sa_,sb_,sc_,a_t,a_u]
        rfl
       refine a_z (i:=14) (N:=some 42) (v:=undef) (a':=?_) Z69_ rfl rfl (a_q HT_.out (by kernel_rfl)) (fun _ _ _ h => h) (Or.inr ⟨by rfl,rfl⟩) ?_ ?_
       rotate_left
       ·simp only [Act.put,sa_,sb_,sc_,a_t,a_u]
        rfl
       refine a_z (i:=15) (N:=some 43) (v:=undef) (a':=?_) Z76_ rfl rfl (a_q HT_.out (by kernel_rfl)) (fun _ _ _ h => h) (Or.inr ⟨by rfl,rfl⟩) ?_ ?_
       rotate_left
       ·simp only [Act.put,sa_,sb_,sc_,a_t,a_u]
        rfl
       refine a_z (i:=16) (N:=some 44) (v:=undef) (a':=?_) Z80_ rfl rfl (a_q HT_.out (by kernel_rfl)) (fun _ _ _ h => h) (Or.inr ⟨by rfl,rfl⟩) ?_ ?_
       rotate_left
       ·simp only [Act.put,sa_,sb_,sc_,a_t,a_u]
        rfl
       refine a_z (i:=17) (N:=some 45) (v:=undef) (a':=?_) Z85_ rfl rfl (a_q HT_.out (by kernel_rfl)) (fun _ _ _ h => h) (Or.inr ⟨by rfl,rfl⟩) ?_ ?_
       rotate_left
       ·simp only [Act.put,sa_,sb_,sc_,a_t,a_u]
        rfl
       refine a_z (i:=18) (N:=some 46) (v:=?_) (a':=?_) s_n rfl rfl (a_q HT_.out (by kernel_rfl)) (fun _ _ _ h => h) (Or.inl ⟨by rfl,?_⟩) ?_ ?_
       rotate_left
       ·intro w'
        go_simp
        with_reducible rfl
       rotate_left
       ·simp only [Act.put,sa_,sb_,sc_,a_t,a_u]
        rfl
       refine e_j (c_q HT_.out (by kernel_rfl)) ?_
       try go_wp2
       go_meet
       case rel => exact ⟨_,(true),(by first|rfl|(simp;done)|(simp [*];done)),H',⟨by have:=HJ1.out;have:=HK2.out;first|omega|exact Nat.le_refl _⟩,⟨by (with_reducible repeat (first|refine a_l ?_ _|refine a_m ?_|refine a_j ?_ _));exact b_o.out⟩,⟨by (with_reducible repeat (first|refine a_l ?_ _|refine a_m ?_|refine a_j ?_ _));exact a_N.out⟩,⟨by repeat (first|(with_reducible first|exact HB.out|apply a_g|apply a_e|apply a_h|refine a_f ?_ d_b.out|refine a_f ?_ d_Q.out)|exact HB.out)⟩⟩
      subst c16
      have H1 : (if x3_2 > 0 then (if 0 ≤ (wrap64 (x3_2 - 1)) then (if (wrap64 (x3_2 - 1)) < (l0_1.length : Int) then (a_k.j2 k2 x3_2 (decide (((a_c l0_1 (wrap64 (x3_2 - 1))).f0) ≥ ((a_c l0_1 x3_2).f0))) a0_0 l0_1 ((a_c l0_1 x3_2).f0) ((a_c l0_1 x3_2).f1) ((a_c l0_1 x3_2).f2) ((a_c l0_1 x3_2).f3) ((a_c l0_1 x3_2).f4) ((a_c l0_1 x3_2).f5) ((a_c l0_1 x3_2).f6) ((a_c l0_1 x3_2).f7) ((a_c l0_1 x3_2).f8) ((a_c l0_1 x3_2).f9) ((a_c l0_1 x3_2).f10)) else (none)) else (none)) else (a_k.j2 k2 x3_2 false a0_0 l0_1 ((a_c l0_1 x3_2).f0) ((a_c l0_1 x3_2).f1) ((a_c l0_1 x3_2).f2) ((a_c l0_1 x3_2).f3) ((a_c l0_1 x3_2).f4) ((a_c l0_1 x3_2).f5) ((a_c l0_1 x3_2).f6) ((a_c l0_1 x3_2).f7) ((a_c l0_1 x3_2).f8) ((a_c l0_1 x3_2).f9) ((a_c l0_1 x3_2).f10))) = some r:=by rw [if_pos rfl] at H;exact H
      clear H
      have H:=H1
      clear H1
      by_cases c17 : x3_2 > 0
      rotate_left
      ·rw [if_neg c17] at H
       have c17b0 : decide (0 < x3_2) = false:=decide_eq_false c17
       clear c17
       (first|rw [c17b0]|(simp only [a_t,a_u];rw [c17b0])|skip)
       have H':=a_d.mk H
       clear H
       try go_wp2
       have n0_ : a_d ((((((((((((w12.setCell ⟨a_P,0,none⟩ (.int .i64 ((a_c l0_1 x3_2).f0))).setCell ⟨a_P,1,none⟩ (.int .i64 ((a_c l0_1 x3_2).f1))).setCell ⟨a_P,2,none⟩ (.int .i64 ((a_c l0_1 x3_2).f2))).setCell ⟨a_P,3,none⟩ (.int .i64 ((a_c l0_1 x3_2).f3))).setCell ⟨a_P,4,none⟩ (.int .i64 ((a_c l0_1 x3_2).f4))).setCell ⟨a_P,5,none⟩ (.bool ((a_c l0_1 x3_2).f5))).setCell ⟨a_P,6,none⟩ (.bool ((a_c l0_1 x3_2).f6))).setCell ⟨a_P,7,none⟩ (.int .u32 ((a_c l0_1 x3_2).f7))).setCell ⟨a_P,8,none⟩ (.int .i64 ((a_c l0_1 x3_2).f8))).setCell ⟨a_P,9,none⟩ (.int .i64 ((a_c l0_1 x3_2).f9))).setCell ⟨a_P,10,none⟩ (.int .i64 ((a_c l0_1 x3_2).f10))).heap[c_3]? = some (.cells #[.int .i64 a0_0,.slice (some ad213) l0_1.length c0_1] 27 (0,0))):=⟨by (with_reducible repeat (first|refine a_l ?_ _|refine a_m ?_|refine a_j ?_ _));refine a_L ?_ b_h.out _;(with_reducible repeat (first|refine a_l ?_ _|refine a_m ?_|refine a_j ?_ _));refine a_L ?_ b_h.out _;(with_reducible repeat (first|refine a_l ?_ _|refine a_m ?_|refine a_j ?_ _));refine a_L ?_ b_h.out _;(with_reducible repeat (first|refine a_l ?_ _|refine a_m ?_|refine a_j ?_ _));refine a_L ?_ b_h.out _;(with_reducible repeat (first|refine a_l ?_ _|refine a_m ?_|refine a_j ?_ _));refine a_L ?_ b_h.out _;(with_reducible repeat (first|refine a_l ?_ _|refine a_m ?_|refine a_j ?_ _));refine a_L ?_ b_h.out _;(with_reducible repeat (first|refine a_l ?_ _|refine a_m ?_|refine a_j ?_ _));refine a_L ?_ b_h.out _;(with_reducible repeat (first|refine a_l ?_ _|refine a_m ?_|refine a_j ?_ _));refine a_L ?_ b_h.out _;(with_reducible repeat (first|refine a_l ?_ _|refine a_m ?_|refine a_j ?_ _));refine a_L ?_ b_h.out _;(with_reducible repeat (first|refine a_l ?_ _|refine a_m ?_|refine a_j ?_ _));refine a_L ?_ b_h.out _;(with_reducible repeat (first|refine a_l ?_ _|refine a_m ?_|refine a_j ?_ _));refine a_L ?_ b_h.out _;(with_reducible repeat (first|refine a_l ?_ _|refine a_m ?_|refine a_j ?_ _));exact b_o.out⟩
       have n1_ : a_d ((((((((((((w12.setCell ⟨a_P,0,none⟩ (.int .i64 ((a_c l0_1 x3_2).f0))).setCell ⟨a_P,1,none⟩ (.int .i64 ((a_c l0_1 x3_2).f1))).setCell ⟨a_P,2,none⟩ (.int .i64 ((a_c l0_1 x3_2).f2))).setCell ⟨a_P,3,none⟩ (.int .i64 ((a_c l0_1 x3_2).f3))).setCell ⟨a_P,4,none⟩ (.int .i64 ((a_c l0_1 x3_2).f4))).setCell ⟨a_P,5,none⟩ (.bool ((a_c l0_1 x3_2).f5))).setCell ⟨a_P,6,none⟩ (.bool ((a_c l0_1 x3_2).f6))).setCell ⟨a_P,7,none⟩ (.int .u32 ((a_c l0_1 x3_2).f7))).setCell ⟨a_P,8,none⟩ (.int .i64 ((a_c l0_1 x3_2).f8))).setCell ⟨a_P,9,none⟩ (.int .i64 ((a_c l0_1 x3_2).f9))).setCell ⟨a_P,10,none⟩ (.int .i64 ((a_c l0_1 x3_2).f10))).heap[a_P]? = some (.cells #[.int .i64 ((a_c l0_1 x3_2).f0),.int .i64 ((a_c l0_1 x3_2).f1),.int .i64 ((a_c l0_1 x3_2).f2),.int .i64 ((a_c l0_1 x3_2).f3),.int .i64 ((a_c l0_1 x3_2).f4),.bool ((a_c l0_1 x3_2).f5),.bool ((a_c l0_1 x3_2).f6),.int .u32 ((a_c l0_1 x3_2).f7),.int .i64 ((a_c l0_1 x3_2).f8),.int .i64 ((a_c l0_1 x3_2).f9),.int .i64 ((a_c l0_1 x3_2).f10)] 65 (0,0))):=⟨by (with_reducible repeat (first|refine a_l ?_ _|refine a_m ?_|refine a_j ?_ _));refine a_R (cs:=#[.int .i64 ((a_c l0_1 x3_2).f0),.int .i64 ((a_c l0_1 x3_2).f1),.int .i64 ((a_c l0_1 x3_2).f2),.int .i64 ((a_c l0_1 x3_2).f3),.int .i64 ((a_c l0_1 x3_2).f4),.bool ((a_c l0_1 x3_2).f5),.bool ((a_c l0_1 x3_2).f6),.int .u32 ((a_c l0_1 x3_2).f7),.int .i64 ((a_c l0_1 x3_2).f8),.int .i64 ((a_c l0_1 x3_2).f9),.int .i64 0]) ?_ 10 _ rfl;(with_reducible repeat (first|refine a_l ?_ _|refine a_m ?_|refine a_j ?_ _));refine a_R (cs:=#[.int .i64 ((a_c l0_1 x3_2).f0),.int .i64 ((a_c l0_1 x3_2).f1),.int .i64 ((a_c l0_1 x3_2).f2),.int .i64 ((a_c l0_1 x3_2).f3),.int .i64 ((a_c l0_1 x3_2).f4),.bool ((a_c l0_1 x3_2).f5),.bool ((a_c l0_1 x3_2).f6),.int .u32 ((a_c l0_1 x3_2).f7),.int .i64 ((a_c l0_1 x3_2).f8),.int .i64 0,.int .i64 0]) ?_ 9 _ rfl;(with_reducible repeat (first|refine a_l ?_ _|refine a_m ?_|refine a_j ?_ _));refine a_R (cs:=#[.int .i64 ((a_c l0_1 x3_2).f0),.int .i64 ((a_c l0_1 x3_2).f1),.int .i64 ((a_c l0_1 x3_2).f2),.int .i64 ((a_c l0_1 x3_2).f3),.int .i64 ((a_c l0_1 x3_2).f4),.bool ((a_c l0_1 x3_2).f5),.bool ((a_c l0_1 x3_2).f6),.int .u32 ((a_c l0_1 x3_2).f7),.int .i64 0,.int .i64 0,.int .i64 0]) ?_ 8 _ rfl;(with_reducible repeat (first|refine a_l ?_ _|refine a_m ?_|refine a_j ?_ _));refine a_R (cs:=#[.int .i64 ((a_c l0_1 x3_2).f0),.int .i64 ((a_c l0_1 x3_2).f1),.int .i64 ((a_c l0_1 x3_2).f2),.int .i64 ((a_c l0_1 x3_2).f3),.int .i64 ((a_c l0_1 x3_2).f4),.bool ((a_c l0_1 x3_2).f5),.bool ((a_c l0_1 x3_2).f6),.int .u32 0,.int .i64 0,.int .i64 0,.int .i64 0]) ?_ 7 _ rfl;(with_reducible repeat (first|refine a_l ?_ _|refine a_m ?_|refine a_j ?_ _));refine a_R (cs:=#[.int .i64 ((a_c l0_1 x3_2).f0),.int .i64 ((a_c l0_1 x3_2).f1),.int .i64 ((a_c l0_1 x3_2).f2),.int .i64 ((a_c l0_1 x3_2).f3),.int .i64 ((a_c l0_1 x3_2).f4),.bool ((a_c l0_1 x3_2).f5),.bool false,.int .u32 0,.int .i64 0,.int .i64 0,.int .i64 0]) ?_ 6 _ rfl;(with_reducible repeat (first|refine a_l ?_ _|refine a_m ?_|refine a_j ?_ _));refine a_R (cs:=#[.int .i64 ((a_c l0_1 x3_2).f0),.int .i64 ((a_c l0_1 x3_2).f1),.int .i64 ((a_c l0_1 x3_2).f2),.int .i64 ((a_c l0_1 x3_2).f3),.int .i64 ((a_c l0_1 x3_2).f4),.bool false,.bool false,.int .u32 0,.int .i64 0,.int .i64 0,.int .i64 0]) ?_ 5 _ rfl;(with_reducible repeat (first|refine a_l ?_ _|refine a_m ?_|refine a_j ?_ _));refine a_R (cs:=#[.int .i64 ((a_c l0_1 x3_2).f0),.int .i64 ((a_c l0_1 x3_2).f1),.int .i64 ((a_c l0_1 x3_2).f2),.int .i64 ((a_c l0_1 x3_2).f3),.int .i64 0,.bool false,.bool false,.int .u32 0,.int .i64 0,.int .i64 0,.int .i64 0]) ?_ 4 _ rfl;(with_reducible repeat (first|refine a_l ?_ _|refine a_m ?_|refine a_j ?_ _));refine a_R (cs:=#[.int .i64 ((a_c l0_1 x3_2).f0),.int .i64 ((a_c l0_1 x3_2).f1),.int .i64 ((a_c l0_1 x3_2).f2),.int .i64 0,.int .i64 0,.bool false,.bool false,.int .u32 0,.int .i64 0,.int .i64 0,.int .i64 0]) ?_ 3 _ rfl;(with_reducible repeat (first|refine a_l ?_ _|refine a_m ?_|refine a_j ?_ _));refine a_R (cs:=#[.int .i64 ((a_c l0_1 x3_2).f0),.int .i64 ((a_c l0_1 x3_2).f1),.int .i64 0,.int .i64 0,.int .i64 0,.bool false,.bool false,.int .u32 0,.int .i64 0,.int .i64 0,.int .i64 0]) ?_ 2 _ rfl;(with_reducible repeat (first|refine a_l ?_ _|refine a_m ?_|refine a_j ?_ _));refine a_R (cs:=#[.int .i64 ((a_c l0_1 x3_2).f0),.int .i64 0,.int .i64 0,.int .i64 0,.int .i64 0,.bool false,.bool false,.int .u32 0,.int .i64 0,.int .i64 0,.int .i64 0]) ?_ 1 _ rfl;(with_reducible repeat (first|refine a_l ?_ _|refine a_m ?_|refine a_j ?_ _));refine a_R (cs:=#[.int .i64 0,.int .i64 0,.int .i64 0,.int .i64 0,.int .i64 0,.bool false,.bool false,.int .u32 0,.int .i64 0,.int .i64 0,.int .i64 0]) ?_ 0 _ rfl;(with_reducible repeat (first|refine a_l ?_ _|refine a_m ?_|refine a_j ?_ _));exact a_N.out⟩
       have n2_ : a_d (Below w.heap.size w (((((((((((w12.setCell ⟨a_P,0,none⟩ (.int .i64 ((a_c l0_1 x3_2).f0))).setCell ⟨a_P,1,none⟩ (.int .i64 ((a_c l0_1 x3_2).f1))).setCell ⟨a_P,2,none⟩ (.int .i64 ((a_c l0_1 x3_2).f2))).setCell ⟨a_P,3,none⟩ (.int .i64 ((a_c l0_1 x3_2).f3))).setCell ⟨a_P,4,none⟩ (.int .i64 ((a_c l0_1 x3_2).f4))).setCell ⟨a_P,5,none⟩ (.bool ((a_c l0_1 x3_2).f5))).setCell ⟨a_P,6,none⟩ (.bool ((a_c l0_1 x3_2).f6))).setCell ⟨a_P,7,none⟩ (.int .u32 ((a_c l0_1 x3_2).f7))).setCell ⟨a_P,8,none⟩ (.int .i64 ((a_c l0_1 x3_2).f8))).setCell ⟨a_P,9,none⟩ (.int .i64 ((a_c l0_1 x3_2).f9))).setCell ⟨a_P,10,none⟩ (.int .i64 ((a_c l0_1 x3_2).f10)))):=⟨by repeat (first|(with_reducible first|exact HB.out|apply a_g|apply a_e|apply a_h|refine a_f ?_ d_b.out|refine a_f ?_ d_Q.out)|exact HB.out)⟩
       (try clear b_o)
       (try clear a_N)
       (try clear HB)
       generalize (((((((((((w12.setCell ⟨a_P,0,none⟩ (.int .i64 ((a_c l0_1 x3_2).f0))).setCell ⟨a_P,1,none⟩ (.int .i64 ((a_c l0_1 x3_2).f1))).setCell ⟨a_P,2,none⟩ (.int .i64 ((a_c l0_1 x3_2).f2))).setCell ⟨a_P,3,none⟩ (.int .i64 ((a_c l0_1 x3_2).f3))).setCell ⟨a_P,4,none⟩ (.int .i64 ((a_c l0_1 x3_2).f4))).setCell ⟨a_P,5,none⟩ (.bool ((a_c l0_1 x3_2).f5))).setCell ⟨a_P,6,none⟩ (.bool ((a_c l0_1 x3_2).f6))).setCell ⟨a_P,7,none⟩ (.int .u32 ((a_c l0_1 x3_2).f7))).setCell ⟨a_P,8,none⟩ (.int .i64 ((a_c l0_1 x3_2).f8))).setCell ⟨a_P,9,none⟩ (.int .i64 ((a_c l0_1 x3_2).f9))).setCell ⟨a_P,10,none⟩ (.int .i64 ((a_c l0_1 x3_2).f10))) = w24 at n0_ n1_ n2_ ⊢
       have b_o:=n0_
       have a_N:=n1_
       have HB:=n2_
       clear n0_ n1_ n2_
       replace b_o:=a_d.mk (a_m b_o.out)
       replace a_N:=a_d.mk (a_m a_N.out)
       replace HB:=a_d.mk (a_h HB.out)
       refine c_9 (n:=19) (S:=fun w' => w'.cell? ⟨a_P,0,none⟩ = some (.int .i64 ((a_c l0_1 x3_2).f0)) ∧ w'.cell? ⟨a_P,1,none⟩ = some (.int .i64 ((a_c l0_1 x3_2).f1)) ∧ w'.cell? ⟨a_P,2,none⟩ = some (.int .i64 ((a_c l0_1 x3_2).f2)) ∧ w'.cell? ⟨a_P,3,none⟩ = some (.int .i64 ((a_c l0_1 x3_2).f3)) ∧ w'.cell? ⟨a_P,4,none⟩ = some (.int .i64 ((a_c l0_1 x3_2).f4)) ∧ w'.cell? ⟨a_P,5,none⟩ = some (.bool ((a_c l0_1 x3_2).f5)) ∧ w'.cell? ⟨a_P,6,none⟩ = some (.bool ((a_c l0_1 x3_2).f6)) ∧ w'.cell? ⟨a_P,7,none⟩ = some (.int .u32 ((a_c l0_1 x3_2).f7)) ∧ w'.cell? ⟨a_P,8,none⟩ = some (.int .i64 ((a_c l0_1 x3_2).f8)) ∧ w'.cell? ⟨a_P,9,none⟩ = some (.int .i64 ((a_c l0_1 x3_2).f9)) ∧ w'.cell? ⟨a_P,10,none⟩ = some (.int .i64 ((a_c l0_1 x3_2).f10))) (ds:=[]) Z3_ (by kernel_rfl) rfl rfl ⟨(a_a a_N.out 0).trans rfl,(a_a a_N.out 1).trans rfl,(a_a a_N.out 2).trans rfl,(a_a a_N.out 3).trans rfl,(a_a a_N.out 4).trans rfl,(a_a a_N.out 5).trans rfl,(a_a a_N.out 6).trans rfl,(a_a a_N.out 7).trans rfl,(a_a a_N.out 8).trans rfl,(a_a a_N.out 9).trans rfl,(a_a a_N.out 10).trans rfl⟩ (fun hHeld => ?_);refine b_P a_k.tab7 a_k.k_l (fun HT_ HW_ => ?_)
       generalize w24.drew = w25 at b_o a_N HB hHeld ⊢
       refine b_l (i:=0) (N:=some 28) (v:=?_) (a':=?_) Z7_ rfl rfl (a_O HT_.out HW_.out (by kernel_rfl)) (fun _ _ _ h => h) (Or.inl ⟨by rfl,?_⟩) hHeld ?_ ?_
       rotate_left
       ·rintro w' ⟨s0,s1,s2,s3,s4,s5,s6,s7,s8,s9,s10⟩
        go_simp
        with_reducible rfl
       rotate_left
       ·simp only [Act.put,sa_,sb_,sc_,a_t,a_u]
        rfl
       refine one_ (i:=1) (N:=some 29) Z11_ rfl rfl (b_7 HT_.out (by kernel_rfl)) (by decide) (fun K hK => ?_)
       refine d_O Try.func54 (by kernel_rfl) rfl #[.agg #[.int .i64 ((a_c l0_1 x3_2).f0),.int .i64 ((a_c l0_1 x3_2).f1),.int .i64 ((a_c l0_1 x3_2).f2),.int .i64 ((a_c l0_1 x3_2).f3),.int .i64 ((a_c l0_1 x3_2).f4),.bool ((a_c l0_1 x3_2).f5),.bool ((a_c l0_1 x3_2).f6),.int .u32 ((a_c l0_1 x3_2).f7),.int .i64 ((a_c l0_1 x3_2).f8),.int .i64 ((a_c l0_1 x3_2).f9),.int .i64 ((a_c l0_1 x3_2).f10)]] (by rfl) rfl rfl (by (try simp only [List.map_toArray,List.map_cons,List.map_nil]);first|done|rfl|(simp only [List.length_drop,List.length_take];rfl)) ?_
       with_reducible refine (b_D.calls ((a_c l0_1 x3_2).f0) ((a_c l0_1 x3_2).f1) ((a_c l0_1 x3_2).f2) ((a_c l0_1 x3_2).f3) ((a_c l0_1 x3_2).f4) ((a_c l0_1 x3_2).f5) ((a_c l0_1 x3_2).f6) ((a_c l0_1 x3_2).f7) ((a_c l0_1 x3_2).f8) ((a_c l0_1 x3_2).f9) ((a_c l0_1 x3_2).f10) true _ A15.out).mono ?_
       rintro e w26 ⟨rfl,hb⟩
       refine ⟨_,rfl,?_⟩
       replace b_o:=a_d.mk (a_i (bup_ b_o.out) hb)
       replace a_N:=a_d.mk (a_i (bup_ a_N.out) hb)
       replace HB:=a_d.mk (a_o (by repeat (first|(with_reducible first|exact HB.out|apply a_g|apply a_e|apply a_h|refine a_f ?_ d_b.out|refine a_f ?_ d_Q.out)|exact HB.out)) hb)
       (try clear hb)
       (try clear hb2)
       (try clear hk)
       (try clear hi)
       refine hK.out _ _ ⟨(a_a a_N.out 0).trans rfl,(a_a a_N.out 1).trans rfl,(a_a a_N.out 2).trans rfl,(a_a a_N.out 3).trans rfl,(a_a a_N.out 4).trans rfl,(a_a a_N.out 5).trans rfl,(a_a a_N.out 6).trans rfl,(a_a a_N.out 7).trans rfl,(a_a a_N.out 8).trans rfl,(a_a a_N.out 9).trans rfl,(a_a a_N.out 10).trans rfl⟩ (fun hHeld => ?_)
       clear hK K
       refine d_A (a':=?_) ?_ ?_
       rotate_left
       ·show Act.put _ (some 29) _ = _
        simp only [Act.put,sa_,sb_,sc_,a_t,a_u]
        rfl
       refine a_z (i:=2) (N:=some 30) (v:=?_) (a':=?_) Z15_ rfl rfl (a_q HT_.out (by kernel_rfl)) (fun _ _ _ h => h) (Or.inl ⟨by rfl,?_⟩) ?_ ?_
       rotate_left
       ·intro w'
        go_simp
        with_reducible rfl
       rotate_left
       ·simp only [Act.put,sa_,sb_,sc_,a_t,a_u]
        rfl
       refine a_z (i:=3) (N:=some 31) (v:=?_) (a':=?_) Z19_ rfl rfl (a_q HT_.out (by kernel_rfl)) (fun _ _ _ h => h) (Or.inl ⟨by rfl,?_⟩) ?_ ?_
       rotate_left
       ·intro w'
        go_simp
        with_reducible rfl
       rotate_left
       ·simp only [Act.put,sa_,sb_,sc_,a_t,a_u]
        rfl
       refine a_z (i:=4) (N:=some 32) (v:=?_) (a':=?_) Z23_ rfl rfl (a_q HT_.out (by kernel_rfl)) (fun _ _ _ h => h) (Or.inl ⟨by rfl,?_⟩) ?_ ?_
       rotate_left
       ·intro w'
        go_simp
        with_reducible rfl
       rotate_left
       ·simp only [Act.put,sa_,sb_,sc_,a_t,a_u]
        rfl
       refine a_z (i:=5) (N:=some 33) (v:=?_) (a':=?_) Z27_ rfl rfl (a_q HT_.out (by kernel_rfl)) (fun _ _ _ h => h) (Or.inl ⟨by rfl,?_⟩) ?_ ?_
       rotate_left
       ·intro w'
        go_simp
        with_reducible rfl
       rotate_left
       ·simp only [Act.put,sa_,sb_,sc_,a_t,a_u]
        rfl
       refine a_z (i:=6) (N:=some 34) (v:=?_) (a':=?_) Z31_ rfl rfl (a_q HT_.out (by kernel_rfl)) (fun _ _ _ h => h) (Or.inl ⟨by rfl,?_⟩) ?_ ?_
       rotate_left
       ·intro w'
        go_simp
        with_reducible rfl
       rotate_left
       ·simp only [Act.put,sa_,sb_,sc_,a_t,a_u]
        rfl
       refine a_z (i:=7) (N:=some 35) (v:=undef) (a':=?_) Z35_ rfl rfl (a_q HT_.out (by kernel_rfl)) (fun _ _ _ h => h) (Or.inr ⟨by rfl,rfl⟩) ?_ ?_
       rotate_left
       ·simp only [Act.put,sa_,sb_,sc_,a_t,a_u]
        rfl
       refine a_z (i:=8) (N:=some 36) (v:=undef) (a':=?_) Z42_ rfl rfl (a_q HT_.out (by kernel_rfl)) (fun _ _ _ h => h) (Or.inr ⟨by rfl,rfl⟩) ?_ ?_
       rotate_left
       ·simp only [Act.put,sa_,sb_,sc_,a_t,a_u]
        rfl
       refine a_z (i:=9) (N:=some 37) (v:=undef) (a':=?_) Z47_ rfl rfl (a_q HT_.out (by kernel_rfl)) (fun _ _ _ h => h) (Or.inr ⟨by rfl,rfl⟩) ?_ ?_
       rotate_left
       ·simp only [Act.put,sa_,sb_,sc_,a_t,a_u]
        rfl
       refine a_z (i:=10) (N:=some 38) (v:=undef) (a':=?_) Z50_ rfl rfl (a_q HT_.out (by kernel_rfl)) (fun _ _ _ h => h) (Or.inr ⟨by rfl,rfl⟩) ?_ ?_
       rotate_left
       ·simp only [Act.put,sa_,sb_,sc_,a_t,a_u]
        rfl
       refine a_z (i:=11) (N:=some 39) (v:=undef) (a':=?_) Z55_ rfl rfl (a_q HT_.out (by kernel_rfl)) (fun _ _ _ h => h) (Or.inr ⟨by rfl,rfl⟩) ?_ ?_
       rotate_left
       ·simp only [Act.put,sa_,sb_,sc_,a_t,a_u]
        rfl
       refine a_z (i:=12) (N:=some 40) (v:=undef) (a':=?_) Z60_ rfl rfl (a_q HT_.out (by kernel_rfl)) (fun _ _ _ h => h) (Or.inr ⟨by rfl,rfl⟩) ?_ ?_
       rotate_left
       ·simp only [Act.put,sa_,sb_,sc_,a_t,a_u]
        rfl
       refine a_z (i:=13) (N:=some 41) (v:=undef) (a':=?_) Z65_ rfl rfl (a_q HT_.out (by kernel_rfl)) (fun _ _ _ h => h) (Or.inr ⟨by rfl,rfl⟩) ?_ ?_
       rotate_left
       ·simp only [Act.put,sa_,sb_,sc_,a_t,a_u]
        rfl
       refine a_z (i:=14) (N:=some 42) (v:=undef) (a':=?_) Z69_ rfl rfl (a_q HT_.out (by kernel_rfl)) (fun _ _ _ h => h) (Or.inr ⟨by rfl,rfl⟩) ?_ ?_
       rotate_left
       ·simp only [Act.put,sa_,sb_,sc_,a_t,a_u]
        rfl
       refine a_z (i:=15) (N:=some 43) (v:=undef) (a':=?_) Z76_ rfl rfl (a_q HT_.out (by kernel_rfl)) (fun _ _ _ h => h) (Or.inr ⟨by rfl,rfl⟩) ?_ ?_
       rotate_left
       ·simp only [Act.put,sa_,sb_,sc_,a_t,a_u]
        rfl
       refine a_z (i:=16) (N:=some 44) (v:=undef) (a':=?_) Z80_ rfl rfl (a_q HT_.out (by kernel_rfl)) (fun _ _ _ h => h) (Or.inr ⟨by rfl,rfl⟩) ?_ ?_
       rotate_left
       ·simp only [Act.put,sa_,sb_,sc_,a_t,a_u]
        rfl
       refine a_z (i:=17) (N:=some 45) (v:=?_) (a':=?_) Z85_ rfl rfl (a_q HT_.out (by kernel_rfl)) (fun _ _ _ h => h) (Or.inl ⟨by rfl,?_⟩) ?_ ?_
       rotate_left
       ·intro w'
        go_simp
        with_reducible rfl
       rotate_left
       ·simp only [Act.put,sa_,sb_,sc_,a_t,a_u]
        rfl
       refine a_z (i:=18) (N:=some 46) (v:=?_) (a':=?_) s_n rfl rfl (a_q HT_.out (by kernel_rfl)) (fun _ _ _ h => h) (Or.inl ⟨by rfl,?_⟩) ?_ ?_
       rotate_left
       ·intro w'
        go_simp
        with_reducible rfl
       rotate_left
       ·simp only [Act.put,sa_,sb_,sc_,a_t,a_u]
        rfl
       refine e_j (c_q HT_.out (by kernel_rfl)) ?_
       try go_wp2
       go_meet
       case rel => exact ⟨_,(false),(by first|rfl|(simp;done)|(simp [*];done)),H',⟨by have:=HJ1.out;have:=HK2.out;first|omega|exact Nat.le_refl _⟩,⟨by (with_reducible repeat (first|refine a_l ?_ _|refine a_m ?_|refine a_j ?_ _));exact b_o.out⟩,⟨by (with_reducible repeat (first|refine a_l ?_ _|refine a_m ?_|refine a_j ?_ _));exact a_N.out⟩,⟨by repeat (first|(with_reducible first|exact HB.out|apply a_g|apply a_e|apply a_h|refine a_f ?_ d_b.out|refine a_f ?_ d_Q.out)|exact HB.out)⟩⟩
      rw [if_pos c17] at H
      have c17b0 : decide (0 < x3_2) = true:=decide_eq_true c17
      clear c17
      (first|rw [c17b0]|(simp only [a_t,a_u];rw [c17b0])|skip)
      obtain ⟨ji18,hji18⟩ : ∃ j_ : Int,(wrap64 (x3_2 - 1)) = j_:=⟨_,rfl⟩
      replace H : (if 0 ≤ (ji18) then (if (ji18) < (l0_1.length : Int) then (a_k.j2 k2 x3_2 (decide (((a_c l0_1 (ji18)).f0) ≥ ((a_c l0_1 x3_2).f0))) a0_0 l0_1 ((a_c l0_1 x3_2).f0) ((a_c l0_1 x3_2).f1) ((a_c l0_1 x3_2).f2) ((a_c l0_1 x3_2).f3) ((a_c l0_1 x3_2).f4) ((a_c l0_1 x3_2).f5) ((a_c l0_1 x3_2).f6) ((a_c l0_1 x3_2).f7) ((a_c l0_1 x3_2).f8) ((a_c l0_1 x3_2).f9) ((a_c l0_1 x3_2).f10)) else (none)) else (none)) = some r:=by first|(rw [hji18] at H;exact H)|(simp only [hji18] at H ⊢; exact H)
      (try rw [hji18] at A15)
      have hji18w : (IntKind.i64.wrap (x3_2 - 1)) = ji18:=(a_t _).trans hji18
      by_cases c19 : 0 ≤ (ji18)
      rotate_left
      ·rw [if_neg c19] at H
       exact absurd H (by simp)
      rw [if_pos c19] at H
      have c19b0 : decide (0 ≤ (ji18)) = true:=decide_eq_true c19
      clear c19
      by_cases c20 : (ji18) < (l0_1.length : Int)
      rotate_left
      ·rw [if_neg c20] at H
       exact absurd H (by simp)
      rw [if_pos c20] at H
      have c20b0 : decide ((ji18) < (l0_1.length : Int)) = true:=decide_eq_true c20
      clear c20
      have H':=a_d.mk H
      clear H
      try go_wp2
      have n0_ : a_d ((((((((((((w12.setCell ⟨a_P,0,none⟩ (.int .i64 ((a_c l0_1 x3_2).f0))).setCell ⟨a_P,1,none⟩ (.int .i64 ((a_c l0_1 x3_2).f1))).setCell ⟨a_P,2,none⟩ (.int .i64 ((a_c l0_1 x3_2).f2))).setCell ⟨a_P,3,none⟩ (.int .i64 ((a_c l0_1 x3_2).f3))).setCell ⟨a_P,4,none⟩ (.int .i64 ((a_c l0_1 x3_2).f4))).setCell ⟨a_P,5,none⟩ (.bool ((a_c l0_1 x3_2).f5))).setCell ⟨a_P,6,none⟩ (.bool ((a_c l0_1 x3_2).f6))).setCell ⟨a_P,7,none⟩ (.int .u32 ((a_c l0_1 x3_2).f7))).setCell ⟨a_P,8,none⟩ (.int .i64 ((a_c l0_1 x3_2).f8))).setCell ⟨a_P,9,none⟩ (.int .i64 ((a_c l0_1 x3_2).f9))).setCell ⟨a_P,10,none⟩ (.int .i64 ((a_c l0_1 x3_2).f10))).heap[c_3]? = some (.cells #[.int .i64 a0_0,.slice (some ad213) l0_1.length c0_1] 27 (0,0))):=⟨by (with_reducible repeat (first|refine a_l ?_ _|refine a_m ?_|refine a_j ?_ _));refine a_L ?_ b_h.out _;(with_reducible repeat (first|refine a_l ?_ _|refine a_m ?_|refine a_j ?_ _));refine a_L ?_ b_h.out _;(with_reducible repeat (first|refine a_l ?_ _|refine a_m ?_|refine a_j ?_ _));refine a_L ?_ b_h.out _;(with_reducible repeat (first|refine a_l ?_ _|refine a_m ?_|refine a_j ?_ _));refine a_L ?_ b_h.out _;(with_reducible repeat (first|refine a_l ?_ _|refine a_m ?_|refine a_j ?_ _));refine a_L ?_ b_h.out _;(with_reducible repeat (first|refine a_l ?_ _|refine a_m ?_|refine a_j ?_ _));refine a_L ?_ b_h.out _;(with_reducible repeat (first|refine a_l ?_ _|refine a_m ?_|refine a_j ?_ _));refine a_L ?_ b_h.out _;(with_reducible repeat (first|refine a_l ?_ _|refine a_m ?_|refine a_j ?_ _));refine a_L ?_ b_h.out _;(with_reducible repeat (first|refine a_l ?_ _|refine a_m ?_|refine a_j ?_ _));refine a_L ?_ b_h.out _;(with_reducible repeat (first|refine a_l ?_ _|refine a_m ?_|refine a_j ?_ _));refine a_L ?_ b_h.out _;(with_reducible repeat (first|refine a_l ?_ _|refine a_m ?_|refine a_j ?_ _));refine a_L ?_ b_h.out _;(with_reducible repeat (first|refine a_l ?_ _|refine a_m ?_|refine a_j ?_ _));exact b_o.out⟩
      have n1_ : a_d ((((((((((((w12.setCell ⟨a_P,0,none⟩ (.int .i64 ((a_c l0_1 x3_2).f0))).setCell ⟨a_P,1,none⟩ (.int .i64 ((a_c l0_1 x3_2).f1))).setCell ⟨a_P,2,none⟩ (.int .i64 ((a_c l0_1 x3_2).f2))).setCell ⟨a_P,3,none⟩ (.int .i64 ((a_c l0_1 x3_2).f3))).setCell ⟨a_P,4,none⟩ (.int .i64 ((a_c l0_1 x3_2).f4))).setCell ⟨a_P,5,none⟩ (.bool ((a_c l0_1 x3_2).f5))).setCell ⟨a_P,6,none⟩ (.bool ((a_c l0_1 x3_2).f6))).setCell ⟨a_P,7,none⟩ (.int .u32 ((a_c l0_1 x3_2).f7))).setCell ⟨a_P,8,none⟩ (.int .i64 ((a_c l0_1 x3_2).f8))).setCell ⟨a_P,9,none⟩ (.int .i64 ((a_c l0_1 x3_2).f9))).setCell ⟨a_P,10,none⟩ (.int .i64 ((a_c l0_1 x3_2).f10))).heap[a_P]? = some (.cells #[.int .i64 ((a_c l0_1 x3_2).f0),.int .i64 ((a_c l0_1 x3_2).f1),.int .i64 ((a_c l0_1 x3_2).f2),.int .i64 ((a_c l0_1 x3_2).f3),.int .i64 ((a_c l0_1 x3_2).f4),.bool ((a_c l0_1 x3_2).f5),.bool ((a_c l0_1 x3_2).f6),.int .u32 ((a_c l0_1 x3_2).f7),.int .i64 ((a_c l0_1 x3_2).f8),.int .i64 ((a_c l0_1 x3_2).f9),.int .i64 ((a_c l0_1 x3_2).f10)] 65 (0,0))):=⟨by (with_reducible repeat (first|refine a_l ?_ _|refine a_m ?_|refine a_j ?_ _));refine a_R (cs:=#[.int .i64 ((a_c l0_1 x3_2).f0),.int .i64 ((a_c l0_1 x3_2).f1),.int .i64 ((a_c l0_1 x3_2).f2),.int .i64 ((a_c l0_1 x3_2).f3),.int .i64 ((a_c l0_1 x3_2).f4),.bool ((a_c l0_1 x3_2).f5),.bool ((a_c l0_1 x3_2).f6),.int .u32 ((a_c l0_1 x3_2).f7),.int .i64 ((a_c l0_1 x3_2).f8),.int .i64 ((a_c l0_1 x3_2).f9),.int .i64 0]) ?_ 10 _ rfl;(with_reducible repeat (first|refine a_l ?_ _|refine a_m ?_|refine a_j ?_ _));refine a_R (cs:=#[.int .i64 ((a_c l0_1 x3_2).f0),.int .i64 ((a_c l0_1 x3_2).f1),.int .i64 ((a_c l0_1 x3_2).f2),.int .i64 ((a_c l0_1 x3_2).f3),.int .i64 ((a_c l0_1 x3_2).f4),.bool ((a_c l0_1 x3_2).f5),.bool ((a_c l0_1 x3_2).f6),.int .u32 ((a_c l0_1 x3_2).f7),.int .i64 ((a_c l0_1 x3_2).f8),.int .i64 0,.int .i64 0]) ?_ 9 _ rfl;(with_reducible repeat (first|refine a_l ?_ _|refine a_m ?_|refine a_j ?_ _));refine a_R (cs:=#[.int .i64 ((a_c l0_1 x3_2).f0),.int .i64 ((a_c l0_1 x3_2).f1),.int .i64 ((a_c l0_1 x3_2).f2),.int .i64 ((a_c l0_1 x3_2).f3),.int .i64 ((a_c l0_1 x3_2).f4),.bool ((a_c l0_1 x3_2).f5),.bool ((a_c l0_1 x3_2).f6),.int .u32 ((a_c l0_1 x3_2).f7),.int .i64 0,.int .i64 0,.int .i64 0]) ?_ 8 _ rfl;(with_reducible repeat (first|refine a_l ?_ _|refine a_m ?_|refine a_j ?_ _));refine a_R (cs:=#[.int .i64 ((a_c l0_1 x3_2).f0),.int .i64 ((a_c l0_1 x3_2).f1),.int .i64 ((a_c l0_1 x3_2).f2),.int .i64 ((a_c l0_1 x3_2).f3),.int .i64 ((a_c l0_1 x3_2).f4),.bool ((a_c l0_1 x3_2).f5),.bool ((a_c l0_1 x3_2).f6),.int .u32 0,.int .i64 0,.int .i64 0,.int .i64 0]) ?_ 7 _ rfl;(with_reducible repeat (first|refine a_l ?_ _|refine a_m ?_|refine a_j ?_ _));refine a_R (cs:=#[.int .i64 ((a_c l0_1 x3_2).f0),.int .i64 ((a_c l0_1 x3_2).f1),.int .i64 ((a_c l0_1 x3_2).f2),.int .i64 ((a_c l0_1 x3_2).f3),.int .i64 ((a_c l0_1 x3_2).f4),.bool ((a_c l0_1 x3_2).f5),.bool false,.int .u32 0,.int .i64 0,.int .i64 0,.int .i64 0]) ?_ 6 _ rfl;(with_reducible repeat (first|refine a_l ?_ _|refine a_m ?_|refine a_j ?_ _));refine a_R (cs:=#[.int .i64 ((a_c l0_1 x3_2).f0),.int .i64 ((a_c l0_1 x3_2).f1),.int .i64 ((a_c l0_1 x3_2).f2),.int .i64 ((a_c l0_1 x3_2).f3),.int .i64 ((a_c l0_1 x3_2).f4),.bool false,.bool false,.int .u32 0,.int .i64 0,.int .i64 0,.int .i64 0]) ?_ 5 _ rfl;(with_reducible repeat (first|refine a_l ?_ _|refine a_m ?_|refine a_j ?_ _));refine a_R (cs:=#[.int .i64 ((a_c l0_1 x3_2).f0),.int .i64 ((a_c l0_1 x3_2).f1),.int .i64 ((a_c l0_1 x3_2).f2),.int .i64 ((a_c l0_1 x3_2).f3),.int .i64 0,.bool false,.bool false,.int .u32 0,.int .i64 0,.int .i64 0,.int .i64 0]) ?_ 4 _ rfl;(with_reducible repeat (first|refine a_l ?_ _|refine a_m ?_|refine a_j ?_ _));refine a_R (cs:=#[.int .i64 ((a_c l0_1 x3_2).f0),.int .i64 ((a_c l0_1 x3_2).f1),.int .i64 ((a_c l0_1 x3_2).f2),.int .i64 0,.int .i64 0,.bool false,.bool false,.int .u32 0,.int .i64 0,.int .i64 0,.int .i64 0]) ?_ 3 _ rfl;(with_reducible repeat (first|refine a_l ?_ _|refine a_m ?_|refine a_j ?_ _));refine a_R (cs:=#[.int .i64 ((a_c l0_1 x3_2).f0),.int .i64 ((a_c l0_1 x3_2).f1),.int .i64 0,.int .i64 0,.int .i64 0,.bool false,.bool false,.int .u32 0,.int .i64 0,.int .i64 0,.int .i64 0]) ?_ 2 _ rfl;(with_reducible repeat (first|refine a_l ?_ _|refine a_m ?_|refine a_j ?_ _));refine a_R (cs:=#[.int .i64 ((a_c l0_1 x3_2).f0),.int .i64 0,.int .i64 0,.int .i64 0,.int .i64 0,.bool false,.bool false,.int .u32 0,.int .i64 0,.int .i64 0,.int .i64 0]) ?_ 1 _ rfl;(with_reducible repeat (first|refine a_l ?_ _|refine a_m ?_|refine a_j ?_ _));refine a_R (cs:=#[.int .i64 0,.int .i64 0,.int .i64 0,.int .i64 0,.int .i64 0,.bool false,.bool false,.int .u32 0,.int .i64 0,.int .i64 0,.int .i64 0]) ?_ 0 _ rfl;(with_reducible repeat (first|refine a_l ?_ _|refine a_m ?_|refine a_j ?_ _));exact a_N.out⟩
      have n2_ : a_d (Below w.heap.size w (((((((((((w12.setCell ⟨a_P,0,none⟩ (.int .i64 ((a_c l0_1 x3_2).f0))).setCell ⟨a_P,1,none⟩ (.int .i64 ((a_c l0_1 x3_2).f1))).setCell ⟨a_P,2,none⟩ (.int .i64 ((a_c l0_1 x3_2).f2))).setCell ⟨a_P,3,none⟩ (.int .i64 ((a_c l0_1 x3_2).f3))).setCell ⟨a_P,4,none⟩ (.int .i64 ((a_c l0_1 x3_2).f4))).setCell ⟨a_P,5,none⟩ (.bool ((a_c l0_1 x3_2).f5))).setCell ⟨a_P,6,none⟩ (.bool ((a_c l0_1 x3_2).f6))).setCell ⟨a_P,7,none⟩ (.int .u32 ((a_c l0_1 x3_2).f7))).setCell ⟨a_P,8,none⟩ (.int .i64 ((a_c l0_1 x3_2).f8))).setCell ⟨a_P,9,none⟩ (.int .i64 ((a_c l0_1 x3_2).f9))).setCell ⟨a_P,10,none⟩ (.int .i64 ((a_c l0_1 x3_2).f10)))):=⟨by repeat (first|(with_reducible first|exact HB.out|apply a_g|apply a_e|apply a_h|refine a_f ?_ d_b.out|refine a_f ?_ d_Q.out)|exact HB.out)⟩
      (try clear b_o)
      (try clear a_N)
      (try clear HB)
      generalize (((((((((((w12.setCell ⟨a_P,0,none⟩ (.int .i64 ((a_c l0_1 x3_2).f0))).setCell ⟨a_P,1,none⟩ (.int .i64 ((a_c l0_1 x3_2).f1))).setCell ⟨a_P,2,none⟩ (.int .i64 ((a_c l0_1 x3_2).f2))).setCell ⟨a_P,3,none⟩ (.int .i64 ((a_c l0_1 x3_2).f3))).setCell ⟨a_P,4,none⟩ (.int .i64 ((a_c l0_1 x3_2).f4))).setCell ⟨a_P,5,none⟩ (.bool ((a_c l0_1 x3_2).f5))).setCell ⟨a_P,6,none⟩ (.bool ((a_c l0_1 x3_2).f6))).setCell ⟨a_P,7,none⟩ (.int .u32 ((a_c l0_1 x3_2).f7))).setCell ⟨a_P,8,none⟩ (.int .i64 ((a_c l0_1 x3_2).f8))).setCell ⟨a_P,9,none⟩ (.int .i64 ((a_c l0_1 x3_2).f9))).setCell ⟨a_P,10,none⟩ (.int .i64 ((a_c l0_1 x3_2).f10))) = w21 at n0_ n1_ n2_ ⊢
      have b_o:=n0_
      have a_N:=n1_
      have HB:=n2_
      clear n0_ n1_ n2_
      replace b_o:=a_d.mk (a_m b_o.out)
      replace a_N:=a_d.mk (a_m a_N.out)
      replace HB:=a_d.mk (a_h HB.out)
      have p216 : 0 ≤ ((ji18) : Int):=of_decide_eq_true (by first|(with_reducible assumption)|assumption)
      have q216 : (ji18) < (l0_1.length : Int):=of_decide_eq_true (by first|(with_reducible assumption)|assumption)
      obtain ⟨ad216,e216,f_7,f_8,f_9,g_a,g_b,g_c,g_d,g_e,g_f,g_g,e_U⟩:=d_g d_i.out (ji18) p216 q216
      have h_s:=e_U
      have j_M:=g_g
      have j_N:=g_f
      have j_O:=g_e
      have j_P:=g_d
      have j_Q:=g_c
      have j_R:=g_b
      have j_S:=g_a
      have j_T:=f_9
      have j_U:=f_8
      have j_V:=f_7
      obtain rfl : ad213 = ad216:=(by injection e216)
      replace f_7:=(HB.out.cell (World.block_lt_of_cell? w _ f_7)).trans f_7
      replace f_8:=(HB.out.cell (World.block_lt_of_cell? w _ f_8)).trans f_8
      replace f_9:=(HB.out.cell (World.block_lt_of_cell? w _ f_9)).trans f_9
      replace g_a:=(HB.out.cell (World.block_lt_of_cell? w _ g_a)).trans g_a
      replace g_b:=(HB.out.cell (World.block_lt_of_cell? w _ g_b)).trans g_b
      replace g_c:=(HB.out.cell (World.block_lt_of_cell? w _ g_c)).trans g_c
      replace g_d:=(HB.out.cell (World.block_lt_of_cell? w _ g_d)).trans g_d
      replace g_e:=(HB.out.cell (World.block_lt_of_cell? w _ g_e)).trans g_e
      replace g_f:=(HB.out.cell (World.block_lt_of_cell? w _ g_f)).trans g_f
      replace g_g:=(HB.out.cell (World.block_lt_of_cell? w _ g_g)).trans g_g
      replace e_U:=(HB.out.cell (World.block_lt_of_cell? w _ e_U)).trans e_U
      replace p216:=eq_true p216
      replace q216:=eq_true q216
      refine c_9 (n:=19) (S:=fun w' => w'.cell? ⟨a_P,0,none⟩ = some (.int .i64 ((a_c l0_1 x3_2).f0)) ∧ w'.cell? ⟨a_P,1,none⟩ = some (.int .i64 ((a_c l0_1 x3_2).f1)) ∧ w'.cell? ⟨a_P,2,none⟩ = some (.int .i64 ((a_c l0_1 x3_2).f2)) ∧ w'.cell? ⟨a_P,3,none⟩ = some (.int .i64 ((a_c l0_1 x3_2).f3)) ∧ w'.cell? ⟨a_P,4,none⟩ = some (.int .i64 ((a_c l0_1 x3_2).f4)) ∧ w'.cell? ⟨a_P,5,none⟩ = some (.bool ((a_c l0_1 x3_2).f5)) ∧ w'.cell? ⟨a_P,6,none⟩ = some (.bool ((a_c l0_1 x3_2).f6)) ∧ w'.cell? ⟨a_P,7,none⟩ = some (.int .u32 ((a_c l0_1 x3_2).f7)) ∧ w'.cell? ⟨a_P,8,none⟩ = some (.int .i64 ((a_c l0_1 x3_2).f8)) ∧ w'.cell? ⟨a_P,9,none⟩ = some (.int .i64 ((a_c l0_1 x3_2).f9)) ∧ w'.cell? ⟨a_P,10,none⟩ = some (.int .i64 ((a_c l0_1 x3_2).f10)) ∧ w'.cell? ⟨c_3,0,none⟩ = some (.int .i64 a0_0) ∧ w'.cell? ⟨c_3,1,none⟩ = some (.slice (some ad213) l0_1.length c0_1) ∧ w'.cell? (ad213.add (((ji18)).toNat * 11)) = some (.int .i64 ((a_c l0_1 (ji18)).f0)) ∧ w'.cell? ⟨(ad213.add (((ji18)).toNat * 11)).block,(ad213.add (((ji18)).toNat * 11)).off + 1,none⟩ = some (.int .i64 ((a_c l0_1 (ji18)).f1)) ∧ w'.cell? ⟨(ad213.add (((ji18)).toNat * 11)).block,(ad213.add (((ji18)).toNat * 11)).off + 2,none⟩ = some (.int .i64 ((a_c l0_1 (ji18)).f2)) ∧ w'.cell? ⟨(ad213.add (((ji18)).toNat * 11)).block,(ad213.add (((ji18)).toNat * 11)).off + 3,none⟩ = some (.int .i64 ((a_c l0_1 (ji18)).f3)) ∧ w'.cell? ⟨(ad213.add (((ji18)).toNat * 11)).block,(ad213.add (((ji18)).toNat * 11)).off + 4,none⟩ = some (.int .i64 ((a_c l0_1 (ji18)).f4)) ∧ w'.cell? ⟨(ad213.add (((ji18)).toNat * 11)).block,(ad213.add (((ji18)).toNat * 11)).off + 5,none⟩ = some (.bool ((a_c l0_1 (ji18)).f5)) ∧ w'.cell? ⟨(ad213.add (((ji18)).toNat * 11)).block,(ad213.add (((ji18)).toNat * 11)).off + 6,none⟩ = some (.bool ((a_c l0_1 (ji18)).f6)) ∧ w'.cell? ⟨(ad213.add (((ji18)).toNat * 11)).block,(ad213.add (((ji18)).toNat * 11)).off + 7,none⟩ = some (.int .u32 ((a_c l0_1 (ji18)).f7)) ∧ w'.cell? ⟨(ad213.add (((ji18)).toNat * 11)).block,(ad213.add (((ji18)).toNat * 11)).off + 8,none⟩ = some (.int .i64 ((a_c l0_1 (ji18)).f8)) ∧ w'.cell? ⟨(ad213.add (((ji18)).toNat * 11)).block,(ad213.add (((ji18)).toNat * 11)).off + 9,none⟩ = some (.int .i64 ((a_c l0_1 (ji18)).f9)) ∧ w'.cell? ⟨(ad213.add (((ji18)).toNat * 11)).block,(ad213.add (((ji18)).toNat * 11)).off + 10,none⟩ = some (.int .i64 ((a_c l0_1 (ji18)).f10))) (ds:=[]) Z3_ (by kernel_rfl) rfl rfl ⟨(a_a a_N.out 0).trans rfl,(a_a a_N.out 1).trans rfl,(a_a a_N.out 2).trans rfl,(a_a a_N.out 3).trans rfl,(a_a a_N.out 4).trans rfl,(a_a a_N.out 5).trans rfl,(a_a a_N.out 6).trans rfl,(a_a a_N.out 7).trans rfl,(a_a a_N.out 8).trans rfl,(a_a a_N.out 9).trans rfl,(a_a a_N.out 10).trans rfl,(a_a b_o.out 0).trans rfl,(a_a b_o.out 1).trans rfl,((HB.out.cell (World.block_lt_of_cell? w _ j_V)).trans j_V),((HB.out.cell (World.block_lt_of_cell? w _ j_U)).trans j_U),((HB.out.cell (World.block_lt_of_cell? w _ j_T)).trans j_T),((HB.out.cell (World.block_lt_of_cell? w _ j_S)).trans j_S),((HB.out.cell (World.block_lt_of_cell? w _ j_R)).trans j_R),((HB.out.cell (World.block_lt_of_cell? w _ j_Q)).trans j_Q),((HB.out.cell (World.block_lt_of_cell? w _ j_P)).trans j_P),((HB.out.cell (World.block_lt_of_cell? w _ j_O)).trans j_O),((HB.out.cell (World.block_lt_of_cell? w _ j_N)).trans j_N),((HB.out.cell (World.block_lt_of_cell? w _ j_M)).trans j_M),((HB.out.cell (World.block_lt_of_cell? w _ h_s)).trans h_s)⟩ (fun hHeld => ?_);refine b_P a_k.tab7 a_k.k_l (fun HT_ HW_ => ?_)
      generalize w21.drew = w22 at b_o a_N HB f_7 f_8 e_U f_9 g_a g_b g_c g_d g_e g_f g_g hHeld ⊢
      refine b_l (i:=0) (N:=some 28) (v:=?_) (a':=?_) Z7_ rfl rfl (a_O HT_.out HW_.out (by kernel_rfl)) (fun _ _ _ h => h) (Or.inl ⟨by rfl,?_⟩) hHeld ?_ ?_
      rotate_left
      ·rintro w' ⟨s0,s1,s2,s3,s4,s5,s6,s7,s8,s9,s10,s11,s12,s13,s14,s15,s16,s17,s18,s19,s20,s21,s22,s23⟩
       go_simp
       with_reducible rfl
      rotate_left
      ·simp only [Act.put,sa_,sb_,sc_,a_t,a_u]
       rfl
      refine one_ (i:=1) (N:=some 29) Z11_ rfl rfl (b_7 HT_.out (by kernel_rfl)) (by decide) (fun K hK => ?_)
      refine d_O Try.func54 (by kernel_rfl) rfl #[.agg #[.int .i64 ((a_c l0_1 x3_2).f0),.int .i64 ((a_c l0_1 x3_2).f1),.int .i64 ((a_c l0_1 x3_2).f2),.int .i64 ((a_c l0_1 x3_2).f3),.int .i64 ((a_c l0_1 x3_2).f4),.bool ((a_c l0_1 x3_2).f5),.bool ((a_c l0_1 x3_2).f6),.int .u32 ((a_c l0_1 x3_2).f7),.int .i64 ((a_c l0_1 x3_2).f8),.int .i64 ((a_c l0_1 x3_2).f9),.int .i64 ((a_c l0_1 x3_2).f10)]] (by rfl) rfl rfl (by (try simp only [List.map_toArray,List.map_cons,List.map_nil]);first|done|rfl|(simp only [List.length_drop,List.length_take];rfl)) ?_
      with_reducible refine (b_D.calls ((a_c l0_1 x3_2).f0) ((a_c l0_1 x3_2).f1) ((a_c l0_1 x3_2).f2) ((a_c l0_1 x3_2).f3) ((a_c l0_1 x3_2).f4) ((a_c l0_1 x3_2).f5) ((a_c l0_1 x3_2).f6) ((a_c l0_1 x3_2).f7) ((a_c l0_1 x3_2).f8) ((a_c l0_1 x3_2).f9) ((a_c l0_1 x3_2).f10) true _ A15.out).mono ?_
      rintro e w23 ⟨rfl,hb⟩
      refine ⟨_,rfl,?_⟩
      replace b_o:=a_d.mk (a_i (bup_ b_o.out) hb)
      replace a_N:=a_d.mk (a_i (bup_ a_N.out) hb)
      replace HB:=a_d.mk (a_o (by repeat (first|(with_reducible first|exact HB.out|apply a_g|apply a_e|apply a_h|refine a_f ?_ d_b.out|refine a_f ?_ d_Q.out)|exact HB.out)) hb)
      (try clear hb)
      (try clear hb2)
      (try clear hk)
      (try clear hi)
      refine hK.out _ _ ⟨(a_a a_N.out 0).trans rfl,(a_a a_N.out 1).trans rfl,(a_a a_N.out 2).trans rfl,(a_a a_N.out 3).trans rfl,(a_a a_N.out 4).trans rfl,(a_a a_N.out 5).trans rfl,(a_a a_N.out 6).trans rfl,(a_a a_N.out 7).trans rfl,(a_a a_N.out 8).trans rfl,(a_a a_N.out 9).trans rfl,(a_a a_N.out 10).trans rfl,(a_a b_o.out 0).trans rfl,(a_a b_o.out 1).trans rfl,((HB.out.cell (World.block_lt_of_cell? w _ j_V)).trans j_V),((HB.out.cell (World.block_lt_of_cell? w _ j_U)).trans j_U),((HB.out.cell (World.block_lt_of_cell? w _ j_T)).trans j_T),((HB.out.cell (World.block_lt_of_cell? w _ j_S)).trans j_S),((HB.out.cell (World.block_lt_of_cell? w _ j_R)).trans j_R),((HB.out.cell (World.block_lt_of_cell? w _ j_Q)).trans j_Q),((HB.out.cell (World.block_lt_of_cell? w _ j_P)).trans j_P),((HB.out.cell (World.block_lt_of_cell? w _ j_O)).trans j_O),((HB.out.cell (World.block_lt_of_cell? w _ j_N)).trans j_N),((HB.out.cell (World.block_lt_of_cell? w _ j_M)).trans j_M),((HB.out.cell (World.block_lt_of_cell? w _ h_s)).trans h_s)⟩ (fun hHeld => ?_)
      clear hK K
      refine d_A (a':=?_) ?_ ?_
      rotate_left
      ·show Act.put _ (some 29) _ = _
       simp only [Act.put,sa_,sb_,sc_,a_t,a_u]
       rfl
      refine a_z (i:=2) (N:=some 30) (v:=?_) (a':=?_) Z15_ rfl rfl (a_q HT_.out (by kernel_rfl)) (fun _ _ _ h => h) (Or.inl ⟨by rfl,?_⟩) ?_ ?_
      rotate_left
      ·intro w'
       go_simp
       with_reducible rfl
      rotate_left
      ·simp only [Act.put,sa_,sb_,sc_,a_t,a_u]
       rfl
      refine a_z (i:=3) (N:=some 31) (v:=?_) (a':=?_) Z19_ rfl rfl (a_q HT_.out (by kernel_rfl)) (fun _ _ _ h => h) (Or.inl ⟨by rfl,?_⟩) ?_ ?_
      rotate_left
      ·intro w'
       go_simp
       with_reducible rfl
      rotate_left
      ·simp only [Act.put,sa_,sb_,sc_,a_t,a_u]
       rfl
      refine a_z (i:=4) (N:=some 32) (v:=?_) (a':=?_) Z23_ rfl rfl (a_q HT_.out (by kernel_rfl)) (fun _ _ _ h => h) (Or.inl ⟨by rfl,?_⟩) ?_ ?_
      rotate_left
      ·intro w'
       go_simp
       with_reducible rfl
      rotate_left
      ·simp only [Act.put,sa_,sb_,sc_,a_t,a_u]
       rfl
      refine a_z (i:=5) (N:=some 33) (v:=?_) (a':=?_) Z27_ rfl rfl (a_q HT_.out (by kernel_rfl)) (fun _ _ _ h => h) (Or.inl ⟨by rfl,?_⟩) ?_ ?_
      rotate_left
      ·intro w'
       go_simp
       with_reducible rfl
      rotate_left
      ·simp only [Act.put,sa_,sb_,sc_,a_t,a_u]
       rfl
      refine a_z (i:=6) (N:=some 34) (v:=?_) (a':=?_) Z31_ rfl rfl (a_q HT_.out (by kernel_rfl)) (fun _ _ _ h => h) (Or.inl ⟨by rfl,?_⟩) ?_ ?_
      rotate_left
      ·intro w'
       go_simp
       with_reducible rfl
      rotate_left
      ·simp only [Act.put,sa_,sb_,sc_,a_t,a_u]
       rfl
      refine a_z (i:=7) (N:=some 35) (v:=?_) (a':=?_) Z35_ rfl rfl (a_q HT_.out (by kernel_rfl)) (fun _ _ _ h => h) (Or.inl ⟨by rfl,?_⟩) ?_ ?_
      rotate_left
      ·intro w'
       go_simp
       with_reducible rfl
      rotate_left
      ·simp only [Act.put,sa_,sb_,sc_,a_t,a_u]
       rfl
      refine a_z (i:=9) (N:=some 37) (v:=?_) (a':=?_) #[T_,T_,T_,T_,T_,T_,T_,T_,F_,T_,F_,F_,F_,F_,F_,F_,F_,F_,F_] rfl rfl (a_q HT_.out (by kernel_rfl)) (fun _ _ _ h => h) (Or.inl ⟨by rfl,?_⟩) ?_ ?_
      rotate_left
      ·intro w'
       go_simp
       with_reducible rfl
      rotate_left
      ·simp only [Act.put,sa_,sb_,sc_,a_t,a_u]
       rfl
      refine a_z (i:=10) (N:=some 38) (v:=?_) (a':=?_) #[T_,T_,T_,T_,T_,T_,T_,T_,F_,T_,T_,F_,F_,F_,F_,F_,F_,F_,F_] rfl rfl (a_q HT_.out (by kernel_rfl)) (fun _ _ _ h => h) (Or.inl ⟨by rfl,?_⟩) ?_ ?_
      rotate_left
      ·intro w'
       go_simp
       with_reducible rfl
      rotate_left
      ·simp only [Act.put,sa_,sb_,sc_,a_t,a_u]
       rfl
      refine a_z (i:=14) (N:=some 42) (v:=?_) (a':=?_) #[T_,T_,T_,T_,T_,T_,T_,T_,F_,T_,T_,F_,F_,F_,T_,F_,F_,F_,F_] rfl rfl (a_q HT_.out (by kernel_rfl)) (fun _ _ _ h => h) (Or.inl ⟨by rfl,?_⟩) ?_ ?_
      rotate_left
      ·intro w'
       go_simp
       with_reducible rfl
      rotate_left
      ·simp only [Act.put,sa_,sb_,sc_,a_t,a_u]
       rfl
      refine b_l (i:=8) (N:=some 36) (v:=?_) (a':=?_) #[T_,T_,T_,T_,T_,T_,T_,T_,T_,T_,T_,F_,F_,F_,T_,F_,F_,F_,F_] rfl rfl (a_O HT_.out HW_.out (by kernel_rfl)) (fun _ _ _ h => h) (Or.inl ⟨by rfl,?_⟩) hHeld ?_ ?_
      rotate_left
      ·rintro w' ⟨s0,s1,s2,s3,s4,s5,s6,s7,s8,s9,s10,s11,s12,s13,s14,s15,s16,s17,s18,s19,s20,s21,s22,s23⟩
       go_simp
       with_reducible rfl
      rotate_left
      ·simp only [Act.put,sa_,sb_,sc_,a_t,a_u]
       rfl
      refine a_z (i:=11) (N:=some 39) (v:=?_) (a':=?_) #[T_,T_,T_,T_,T_,T_,T_,T_,T_,T_,T_,T_,F_,F_,T_,F_,F_,F_,F_] rfl rfl (a_q HT_.out (by kernel_rfl)) (fun _ _ _ h => h) (Or.inl ⟨by rfl,?_⟩) ?_ ?_
      rotate_left
      ·intro w'
       go_simp
       with_reducible rfl
      rotate_left
      ·simp only [Act.put,sa_,sb_,sc_,a_t,a_u]
       rfl
      refine a_z (i:=12) (N:=some 40) (v:=?_) (a':=?_) #[T_,T_,T_,T_,T_,T_,T_,T_,T_,T_,T_,T_,T_,F_,T_,F_,F_,F_,F_] rfl rfl (a_q HT_.out (by kernel_rfl)) (fun _ _ _ h => h) (Or.inl ⟨by rfl,?_⟩) ?_ ?_
      rotate_left
      ·intro w'
       go_simp
       with_reducible rfl
      rotate_left
      ·simp only [Act.put,sa_,sb_,sc_,a_t,a_u]
       rfl
      refine b_l (i:=13) (N:=some 41) (v:=?_) (a':=?_) Z69_ rfl rfl (a_O HT_.out HW_.out (by kernel_rfl)) (fun _ _ _ h => h) (Or.inl ⟨by rfl,?_⟩) hHeld ?_ ?_
      rotate_left
      ·rintro w' ⟨s0,s1,s2,s3,s4,s5,s6,s7,s8,s9,s10,s11,s12,s13,s14,s15,s16,s17,s18,s19,s20,s21,s22,s23⟩
       go_simp
       with_reducible rfl
      rotate_left
      ·simp only [Act.put,sa_,sb_,sc_,a_t,a_u]
       rfl
      refine b_l (i:=15) (N:=some 43) (v:=?_) (a':=?_) Z76_ rfl rfl (a_O HT_.out HW_.out (by kernel_rfl)) (fun _ _ _ h => h) (Or.inl ⟨by rfl,?_⟩) hHeld ?_ ?_
      rotate_left
      ·rintro w' ⟨s0,s1,s2,s3,s4,s5,s6,s7,s8,s9,s10,s11,s12,s13,s14,s15,s16,s17,s18,s19,s20,s21,s22,s23⟩
       go_simp
       with_reducible rfl
      rotate_left
      ·simp only [Act.put,sa_,sb_,sc_,a_t,a_u]
       rfl
      refine a_z (i:=16) (N:=some 44) (v:=?_) (a':=?_) Z80_ rfl rfl (a_q HT_.out (by kernel_rfl)) (fun _ _ _ h => h) (Or.inl ⟨by rfl,?_⟩) ?_ ?_
      rotate_left
      ·intro w'
       go_simp
       with_reducible rfl
      rotate_left
      ·simp only [Act.put,sa_,sb_,sc_,a_t,a_u]
       rfl
      refine a_z (i:=17) (N:=some 45) (v:=?_) (a':=?_) Z85_ rfl rfl (a_q HT_.out (by kernel_rfl)) (fun _ _ _ h => h) (Or.inl ⟨by rfl,?_⟩) ?_ ?_
      rotate_left
      ·intro w'
       go_simp
       with_reducible rfl
      rotate_left
      ·simp only [Act.put,sa_,sb_,sc_,a_t,a_u]
       rfl
      refine a_z (i:=18) (N:=some 46) (v:=?_) (a':=?_) s_n rfl rfl (a_q HT_.out (by kernel_rfl)) (fun _ _ _ h => h) (Or.inl ⟨by rfl,?_⟩) ?_ ?_
      rotate_left
      ·intro w'
       go_simp
       with_reducible rfl
      rotate_left
      ·simp only [Act.put,sa_,sb_,sc_,a_t,a_u]
       rfl
      refine e_j (c_q HT_.out (by kernel_rfl)) ?_
      try go_wp2
      go_meet
      case rel => exact ⟨_,(decide (((a_c l0_1 (ji18)).f0) ≥ ((a_c l0_1 x3_2).f0))),(by first|rfl|(simp;done)|(simp only [← hji18] <;> (first|rfl|simp))|(simp [*];done)),H',⟨by have:=HJ1.out;have:=HK2.out;first|omega|exact Nat.le_refl _⟩,⟨by (with_reducible repeat (first|refine a_l ?_ _|refine a_m ?_|refine a_j ?_ _));exact b_o.out⟩,⟨by (with_reducible repeat (first|refine a_l ?_ _|refine a_m ?_|refine a_j ?_ _));exact a_N.out⟩,⟨by repeat (first|(with_reducible first|exact HB.out|apply a_g|apply a_e|apply a_h|refine a_f ?_ d_b.out|refine a_f ?_ d_Q.out)|exact HB.out)⟩⟩
     case rest =>
      clear HC10
      try clear c1
      try clear c2
      try clear p2
      try clear q2
      try clear hx2
      try clear c5
      try clear p6
      try clear c13
      try clear c16
      try clear c17
      try clear c17b0
      try clear c19
      try clear c19b0
      try clear c20
      try clear c20b0
      try clear p21
      try clear q21
      try clear hx21
      try clear i_a
      try clear i_b
      try clear g_O
      try clear i_d
      try clear i_e
      try clear i_f
      try clear i_g
      try clear i_h
      try clear i_i
      try clear i_j
      try clear i_k
      try clear h_Q
      try clear i_l
      try clear i_m
      try clear g_P
      try clear i_n
      try clear i_o
      try clear i_p
      try clear i_q
      try clear i_r
      try clear i_s
      try clear i_t
      try clear i_u
      try clear h_R
      try clear h_S
      try clear g_N
      try clear h_T
      try clear h_U
      try clear h_V
      try clear h_W
      try clear h_X
      try clear h_Y
      try clear h_Z
      try clear h_0
      try clear f_7
      try clear f_8
      try clear e_U
      try clear f_9
      try clear g_a
      try clear g_b
      try clear g_c
      try clear g_d
      try clear g_e
      try clear g_f
      try clear g_g
      try clear p213
      try clear p216
      try clear q213
      try clear q216
      obtain ⟨kq,x46_9,rfl,HA,HJ9,b_o,a_N,HB⟩:=hcut
      cases kq with
      | zero => exact absurd HA.out (by simp [a_k.j2])
      | succ kj9 =>
       have H:=HA.out
       clear HA
       simp only [a_k.j2] at H
       by_cases c30 : x46_9 = true
       ·subst c30
        have H1 : (some false) = some r:=by rw [if_pos rfl] at H;exact H
        clear H
        have H:=H1
        clear H1
        obtain rfl:=Option.some.inj H
        go_wp2
        go_ret
        exact ⟨by first|rfl|(simp [a_w,a_x] <;> rfl)|(simp [*, a_w,a_x] <;> rfl),by repeat (first|(with_reducible first|exact HB.out|apply a_g|apply a_e|apply a_h|refine a_f ?_ d_b.out|refine a_f ?_ d_Q.out)|exact HB.out)⟩
       replace c30:=Bool.eq_false_iff.mpr c30
       subst c30
       have H1 : (a_k.l1 kj9 x3_2 0 0 a0_0 l0_1 ((a_c l0_1 x3_2).f0) ((a_c l0_1 x3_2).f1) ((a_c l0_1 x3_2).f2) ((a_c l0_1 x3_2).f3) ((a_c l0_1 x3_2).f4) ((a_c l0_1 x3_2).f5) ((a_c l0_1 x3_2).f6) ((a_c l0_1 x3_2).f7) ((a_c l0_1 x3_2).f8) ((a_c l0_1 x3_2).f9) ((a_c l0_1 x3_2).f10)) = some r:=by rw [if_neg (show ¬ (false = true) by decide)] at H;exact H
       clear H
       have H:=H1
       clear H1
       have H':=a_d.mk H
       clear H
       go_wp2
       go_loopg [5,6] kj9 (fun kq v5 v6 w' => ∃ (x5_4 : Int) (x6_4 : Int),v5 = .int .i64 x5_4 ∧ v6 = .int .i64 x6_4 ∧ a_d (a_k.l1 kq x3_2 x5_4 x6_4 a0_0 l0_1 ((a_c l0_1 x3_2).f0) ((a_c l0_1 x3_2).f1) ((a_c l0_1 x3_2).f2) ((a_c l0_1 x3_2).f3) ((a_c l0_1 x3_2).f4) ((a_c l0_1 x3_2).f5) ((a_c l0_1 x3_2).f6) ((a_c l0_1 x3_2).f7) ((a_c l0_1 x3_2).f8) ((a_c l0_1 x3_2).f9) ((a_c l0_1 x3_2).f10) = some r) ∧ a_d (kq ≤ kj9) ∧ a_d (w'.heap[c_3]? = some (.cells #[.int .i64 a0_0,(.slice (some ad213) l0_1.length c0_1)] 27 (0,0))) ∧ a_d (w'.heap[a_P]? = some (.cells #[.int .i64 ((a_c l0_1 x3_2).f0),.int .i64 ((a_c l0_1 x3_2).f1),.int .i64 ((a_c l0_1 x3_2).f2),.int .i64 ((a_c l0_1 x3_2).f3),.int .i64 ((a_c l0_1 x3_2).f4),.bool ((a_c l0_1 x3_2).f5),.bool ((a_c l0_1 x3_2).f6),.int .u32 ((a_c l0_1 x3_2).f7),.int .i64 ((a_c l0_1 x3_2).f8),.int .i64 ((a_c l0_1 x3_2).f9),.int .i64 ((a_c l0_1 x3_2).f10)] 65 (0,0))) ∧ a_d (Below w.heap.size w w'))
       case atStart => exact ⟨(0),(0),(by first|rfl|(simp;done)|(simp [*];done)),(by first|rfl|(simp;done)|(simp [*];done)),H',⟨Nat.le_refl _⟩,⟨by (with_reducible repeat (first|refine a_l ?_ _|refine a_m ?_|refine a_j ?_ _));exact b_o.out⟩,⟨by (with_reducible repeat (first|refine a_l ?_ _|refine a_m ?_|refine a_j ?_ _));exact a_N.out⟩,⟨by repeat (first|(with_reducible first|exact HB.out|apply a_g|apply a_e|apply a_h|refine a_f ?_ d_b.out|refine a_f ?_ d_Q.out)|exact HB.out)⟩⟩
       case round =>
        clear H'
        try clear c1
        try clear c2
        try clear p2
        try clear q2
        try clear hx2
        try clear c3
        try clear c5
        try clear p6
        try clear c13
        try clear c16
        try clear c17
        try clear c17b0
        try clear c19
        try clear c19b0
        try clear c20
        try clear c20b0
        try clear p21
        try clear q21
        try clear hx21
        try clear c30
        try clear i_a
        try clear i_b
        try clear g_O
        try clear i_d
        try clear i_e
        try clear i_f
        try clear i_g
        try clear i_h
        try clear i_i
        try clear i_j
        try clear i_k
        try clear h_Q
        try clear i_l
        try clear i_m
        try clear g_P
        try clear i_n
        try clear i_o
        try clear i_p
        try clear i_q
        try clear i_r
        try clear i_s
        try clear i_t
        try clear i_u
        try clear h_R
        try clear h_S
        try clear g_N
        try clear h_T
        try clear h_U
        try clear h_V
        try clear h_W
        try clear h_X
        try clear h_Y
        try clear h_Z
        try clear h_0
        try clear f_7
        try clear f_8
        try clear e_U
        try clear f_9
        try clear g_a
        try clear g_b
        try clear g_c
        try clear g_d
        try clear g_e
        try clear g_f
        try clear g_g
        try clear p2
        try clear p21
        try clear p213
        try clear p216
        try clear p6
        try clear q2
        try clear q21
        try clear q213
        try clear q216
        obtain ⟨x5_4,x6_4,rfl,rfl,HA,HK4,b_o,a_N,HB⟩:=hrel
        cases gk with
        | zero => exact absurd HA.out (by simp [a_k.l1])
        | succ k4 =>
         have H:=HA.out
         clear HA
         simp only [a_k.l1] at H
         by_cases c31 : x6_4 < (l0_1.length : Int)
         rotate_left
         ·rw [if_neg c31] at H
          have c31b0 : decide (x6_4 < (l0_1.length : Int)) = false:=decide_eq_false c31
          clear c31
          by_cases c72 : x5_4 = ((a_c l0_1 x3_2).f9)
          rotate_left
          ·rw [if_neg c72] at H
           have c72b0 : (x5_4 == ((a_c l0_1 x3_2).f9)) = false:=beq_eq_false_iff_ne.mpr c72
           have c72b1 : (x5_4 != ((a_c l0_1 x3_2).f9)) = true:=bne_iff_ne.mpr c72
           obtain rfl:=Option.some.inj H
           have z_I:=b_h.out
           have z_J:=e_o.out
           have t_j : wr.cell? ⟨c_3,0,none⟩ = some (.int .i64 a0_0):=(a_a b_o.out 0).trans rfl
           have t_k : wr.cell? ⟨c_3,1,none⟩ = some (.slice (some ad213) l0_1.length c0_1):=(a_a b_o.out 1).trans rfl
           have t_l:=a_b b_o.out 0
           have t_m:=a_b b_o.out 1
           have z_K : wr.cell? ⟨a_P,0,none⟩ = some (.int .i64 ((a_c l0_1 x3_2).f0)):=(a_a a_N.out 0).trans rfl
           have z_L : wr.cell? ⟨a_P,1,none⟩ = some (.int .i64 ((a_c l0_1 x3_2).f1)):=(a_a a_N.out 1).trans rfl
           have z_M : wr.cell? ⟨a_P,2,none⟩ = some (.int .i64 ((a_c l0_1 x3_2).f2)):=(a_a a_N.out 2).trans rfl
           have z_N : wr.cell? ⟨a_P,3,none⟩ = some (.int .i64 ((a_c l0_1 x3_2).f3)):=(a_a a_N.out 3).trans rfl
           have z_O : wr.cell? ⟨a_P,4,none⟩ = some (.int .i64 ((a_c l0_1 x3_2).f4)):=(a_a a_N.out 4).trans rfl
           have z_P : wr.cell? ⟨a_P,5,none⟩ = some (.bool ((a_c l0_1 x3_2).f5)):=(a_a a_N.out 5).trans rfl
           have z_Q : wr.cell? ⟨a_P,6,none⟩ = some (.bool ((a_c l0_1 x3_2).f6)):=(a_a a_N.out 6).trans rfl
           have z_R : wr.cell? ⟨a_P,7,none⟩ = some (.int .u32 ((a_c l0_1 x3_2).f7)):=(a_a a_N.out 7).trans rfl
           have z_S : wr.cell? ⟨a_P,8,none⟩ = some (.int .i64 ((a_c l0_1 x3_2).f8)):=(a_a a_N.out 8).trans rfl
           have z_T : wr.cell? ⟨a_P,9,none⟩ = some (.int .i64 ((a_c l0_1 x3_2).f9)):=(a_a a_N.out 9).trans rfl
           have w_u : wr.cell? ⟨a_P,10,none⟩ = some (.int .i64 ((a_c l0_1 x3_2).f10)):=(a_a a_N.out 10).trans rfl
           have z_U:=a_b a_N.out 0
           have z_V:=a_b a_N.out 1
           have z_W:=a_b a_N.out 2
           have z_X:=a_b a_N.out 3
           have z_Y:=a_b a_N.out 4
           have z_Z:=a_b a_N.out 5
           have z_0:=a_b a_N.out 6
           have z_1:=a_b a_N.out 7
           have z_2:=a_b a_N.out 8
           have z_3:=a_b a_N.out 9
           have w_v:=a_b a_N.out 10
           go_wp2
           go_ret
           exact ⟨by first|rfl|(simp [a_w,a_x] <;> rfl)|(simp [*, a_w,a_x] <;> rfl),by repeat (first|(with_reducible first|exact HB.out|apply a_g|apply a_e|apply a_h|refine a_f ?_ d_b.out|refine a_f ?_ d_Q.out)|exact HB.out)⟩
          rw [if_pos c72] at H
          have c72b0 : (x5_4 == ((a_c l0_1 x3_2).f9)) = true:=beq_iff_eq.mpr c72
          have c72b1 : (x5_4 != ((a_c l0_1 x3_2).f9)) = false:=bne_eq_false_iff_eq.mpr c72
          clear c72
          have H':=a_d.mk H
          clear H
          have z_4:=b_h.out
          have z_5:=e_o.out
          have t_n : wr.cell? ⟨c_3,0,none⟩ = some (.int .i64 a0_0):=(a_a b_o.out 0).trans rfl
          have t_o : wr.cell? ⟨c_3,1,none⟩ = some (.slice (some ad213) l0_1.length c0_1):=(a_a b_o.out 1).trans rfl
          have t_p:=a_b b_o.out 0
          have t_q:=a_b b_o.out 1
          have z_6 : wr.cell? ⟨a_P,0,none⟩ = some (.int .i64 ((a_c l0_1 x3_2).f0)):=(a_a a_N.out 0).trans rfl
          have z_7 : wr.cell? ⟨a_P,1,none⟩ = some (.int .i64 ((a_c l0_1 x3_2).f1)):=(a_a a_N.out 1).trans rfl
          have z_8 : wr.cell? ⟨a_P,2,none⟩ = some (.int .i64 ((a_c l0_1 x3_2).f2)):=(a_a a_N.out 2).trans rfl
          have z_9 : wr.cell? ⟨a_P,3,none⟩ = some (.int .i64 ((a_c l0_1 x3_2).f3)):=(a_a a_N.out 3).trans rfl
          have A_a : wr.cell? ⟨a_P,4,none⟩ = some (.int .i64 ((a_c l0_1 x3_2).f4)):=(a_a a_N.out 4).trans rfl
          have A_b : wr.cell? ⟨a_P,5,none⟩ = some (.bool ((a_c l0_1 x3_2).f5)):=(a_a a_N.out 5).trans rfl
          have A_c : wr.cell? ⟨a_P,6,none⟩ = some (.bool ((a_c l0_1 x3_2).f6)):=(a_a a_N.out 6).trans rfl
          have A_d : wr.cell? ⟨a_P,7,none⟩ = some (.int .u32 ((a_c l0_1 x3_2).f7)):=(a_a a_N.out 7).trans rfl
          have A_e : wr.cell? ⟨a_P,8,none⟩ = some (.int .i64 ((a_c l0_1 x3_2).f8)):=(a_a a_N.out 8).trans rfl
          have A_f : wr.cell? ⟨a_P,9,none⟩ = some (.int .i64 ((a_c l0_1 x3_2).f9)):=(a_a a_N.out 9).trans rfl
          have w_w : wr.cell? ⟨a_P,10,none⟩ = some (.int .i64 ((a_c l0_1 x3_2).f10)):=(a_a a_N.out 10).trans rfl
          have A_g:=a_b a_N.out 0
          have A_h:=a_b a_N.out 1
          have A_i:=a_b a_N.out 2
          have A_j:=a_b a_N.out 3
          have A_k:=a_b a_N.out 4
          have A_l:=a_b a_N.out 5
          have A_m:=a_b a_N.out 6
          have A_n:=a_b a_N.out 7
          have A_o:=a_b a_N.out 8
          have A_p:=a_b a_N.out 9
          have w_x:=a_b a_N.out 10
          go_wp2
          go_roundg k4
          case measure => have:=HJ1.out;have:=HK2.out;have:=HJ9.out;have:=HK4.out;omega
          case rel => exact ⟨(wrap64 (x3_2 + 1)),(by first|rfl|(simp;done)|(simp [*];done)),H',⟨by have:=HJ1.out;have:=HK2.out;have:=HJ9.out;have:=HK4.out;omega⟩,⟨by (with_reducible repeat (first|refine a_l ?_ _|refine a_m ?_|refine a_j ?_ _));exact b_o.out⟩,⟨by repeat (first|(with_reducible first|exact HB.out|apply a_g|apply a_e|apply a_h|refine a_f ?_ d_b.out|refine a_f ?_ d_Q.out)|exact HB.out)⟩⟩
         rw [if_pos c31] at H
         have c31b0 : decide (x6_4 < (l0_1.length : Int)) = true:=decide_eq_true c31
         clear c31
         by_cases c32 : 0 ≤ x6_4
         rotate_left
         ·rw [if_neg c32] at H
          exact absurd H (by simp)
         rw [if_pos c32] at H
         have c32b0 : decide (0 ≤ x6_4) = true:=decide_eq_true c32
         clear c32
         by_cases c33 : ((a_c l0_1 x6_4).f1) = ((a_c l0_1 x3_2).f1)
         rotate_left
         ·rw [if_neg c33] at H
          have c33b0 : (((a_c l0_1 x6_4).f1) == ((a_c l0_1 x3_2).f1)) = false:=beq_eq_false_iff_ne.mpr c33
          have c33b1 : (((a_c l0_1 x6_4).f1) != ((a_c l0_1 x3_2).f1)) = true:=bne_iff_ne.mpr c33
          have H':=a_d.mk H
          clear H
          have G_T:=b_h.out
          have G_U:=e_o.out
          have A_q : wr.cell? ⟨c_3,0,none⟩ = some (.int .i64 a0_0):=(a_a b_o.out 0).trans rfl
          have A_r : wr.cell? ⟨c_3,1,none⟩ = some (.slice (some ad213) l0_1.length c0_1):=(a_a b_o.out 1).trans rfl
          have A_s:=a_b b_o.out 0
          have A_t:=a_b b_o.out 1
          have p217 : 0 ≤ (x6_4 : Int):=of_decide_eq_true (by first|(with_reducible assumption)|assumption)
          have q217 : x6_4 < (l0_1.length : Int):=of_decide_eq_true (by first|(with_reducible assumption)|assumption)
          obtain ⟨ad217,e217,d_j,d_k,d_l,d_m,d_n,d_o,d_p,d_q,d_r,d_s,c_C⟩:=d_g d_i.out x6_4 p217 q217
          obtain rfl : ad213 = ad217:=(by injection e217)
          replace d_j:=(HB.out.cell (World.block_lt_of_cell? w _ d_j)).trans d_j
          replace d_k:=(HB.out.cell (World.block_lt_of_cell? w _ d_k)).trans d_k
          replace d_l:=(HB.out.cell (World.block_lt_of_cell? w _ d_l)).trans d_l
          replace d_m:=(HB.out.cell (World.block_lt_of_cell? w _ d_m)).trans d_m
          replace d_n:=(HB.out.cell (World.block_lt_of_cell? w _ d_n)).trans d_n
          replace d_o:=(HB.out.cell (World.block_lt_of_cell? w _ d_o)).trans d_o
          replace d_p:=(HB.out.cell (World.block_lt_of_cell? w _ d_p)).trans d_p
          replace d_q:=(HB.out.cell (World.block_lt_of_cell? w _ d_q)).trans d_q
          replace d_r:=(HB.out.cell (World.block_lt_of_cell? w _ d_r)).trans d_r
          replace d_s:=(HB.out.cell (World.block_lt_of_cell? w _ d_s)).trans d_s
          replace c_C:=(HB.out.cell (World.block_lt_of_cell? w _ c_C)).trans c_C
          replace p217:=eq_true p217
          replace q217:=eq_true q217
          go_wp2_with (first|((with_reducible refine a_J (N:=7) rfl ?_);refine a_C ?hg (N:=7) ?hd (cs:=#[.int .i64 0,.int .i64 0,.int .i64 0,.int .i64 0,.int .i64 0,.bool false,.bool false,.int .u32 0,.int .i64 0,.int .i64 0,.int .i64 0]) (t:=65) ?hr ?_;(case hd => rfl);(case hg => rfl);(case hr => first|(go_simp;done)|(go_simp;rfl));intro b_K hg w67 hbox hb;have b_n:=a_d.mk (hbox);have r_l:=a_d.mk ((by rw [hg];exact (a_n (by repeat (first|(with_reducible first|exact HB.out|apply a_g|apply a_e|apply a_h|refine a_f ?_ d_b.out|refine a_f ?_ d_Q.out)|exact HB.out))) : w.heap.size ≤ b_K));have j_W:=a_d.mk ((by rw [hg];exact (a_n (by repeat (first|(with_reducible first|exact HB.out|apply a_g|apply a_e|apply a_h|refine a_f ?_ d_b.out|refine a_f ?_ d_Q.out)|exact HB.out))) : w.heap.size ≤ b_K));have b_z:=a_d.mk ((by rw [hg];exact Nat.ne_of_lt (a_Q (bup_ b_o.out)) : c_3 ≠ b_K));have d_9:=a_d.mk ((by rw [hg];exact Nat.ne_of_gt (a_Q (bup_ b_o.out)) : b_K ≠ c_3));have b_A:=a_d.mk ((by rw [hg];exact Nat.ne_of_lt (a_Q (bup_ a_N.out)) : a_P ≠ b_K));have e_a:=a_d.mk ((by rw [hg];exact Nat.ne_of_gt (a_Q (bup_ a_N.out)) : b_K ≠ a_P));replace b_o:=a_d.mk (a_i (bup_ b_o.out) hb);replace a_N:=a_d.mk (a_i (bup_ a_N.out) hb);replace HB:=a_d.mk (a_o (by repeat (first|(with_reducible first|exact HB.out|apply a_g|apply a_e|apply a_h|refine a_f ?_ d_b.out|refine a_f ?_ d_Q.out)|exact HB.out)) hb);clear hb hbox hg;have G_V:=d_9.out;have G_W:=b_z.out;have G_X:=e_a.out;have G_Y:=b_A.out;have A_u : w67.cell? ⟨b_K,0,none⟩ = some (.int .i64 0):=(a_a b_n.out 0).trans rfl;have A_v : w67.cell? ⟨b_K,1,none⟩ = some (.int .i64 0):=(a_a b_n.out 1).trans rfl;have A_w : w67.cell? ⟨b_K,2,none⟩ = some (.int .i64 0):=(a_a b_n.out 2).trans rfl;have A_x : w67.cell? ⟨b_K,3,none⟩ = some (.int .i64 0):=(a_a b_n.out 3).trans rfl;have A_y : w67.cell? ⟨b_K,4,none⟩ = some (.int .i64 0):=(a_a b_n.out 4).trans rfl;have A_z : w67.cell? ⟨b_K,5,none⟩ = some (.bool false):=(a_a b_n.out 5).trans rfl;have A_A : w67.cell? ⟨b_K,6,none⟩ = some (.bool false):=(a_a b_n.out 6).trans rfl;have A_B : w67.cell? ⟨b_K,7,none⟩ = some (.int .u32 0):=(a_a b_n.out 7).trans rfl;have A_C : w67.cell? ⟨b_K,8,none⟩ = some (.int .i64 0):=(a_a b_n.out 8).trans rfl;have A_D : w67.cell? ⟨b_K,9,none⟩ = some (.int .i64 0):=(a_a b_n.out 9).trans rfl;have w_y : w67.cell? ⟨b_K,10,none⟩ = some (.int .i64 0):=(a_a b_n.out 10).trans rfl;have A_E:=a_b b_n.out 0;have A_F:=a_b b_n.out 1;have A_G:=a_b b_n.out 2;have A_H:=a_b b_n.out 3;have A_I:=a_b b_n.out 4;have A_J:=a_b b_n.out 5;have A_K:=a_b b_n.out 6;have A_L:=a_b b_n.out 7;have A_M:=a_b b_n.out 8;have A_N:=a_b b_n.out 9;have w_z:=a_b b_n.out 10;have A_O : w67.cell? ⟨a_P,0,none⟩ = some (.int .i64 ((a_c l0_1 x3_2).f0)):=(a_a a_N.out 0).trans rfl;have A_P : w67.cell? ⟨a_P,1,none⟩ = some (.int .i64 ((a_c l0_1 x3_2).f1)):=(a_a a_N.out 1).trans rfl;have A_Q : w67.cell? ⟨a_P,2,none⟩ = some (.int .i64 ((a_c l0_1 x3_2).f2)):=(a_a a_N.out 2).trans rfl;have A_R : w67.cell? ⟨a_P,3,none⟩ = some (.int .i64 ((a_c l0_1 x3_2).f3)):=(a_a a_N.out 3).trans rfl;have A_S : w67.cell? ⟨a_P,4,none⟩ = some (.int .i64 ((a_c l0_1 x3_2).f4)):=(a_a a_N.out 4).trans rfl;have A_T : w67.cell? ⟨a_P,5,none⟩ = some (.bool ((a_c l0_1 x3_2).f5)):=(a_a a_N.out 5).trans rfl;have A_U : w67.cell? ⟨a_P,6,none⟩ = some (.bool ((a_c l0_1 x3_2).f6)):=(a_a a_N.out 6).trans rfl;have A_V : w67.cell? ⟨a_P,7,none⟩ = some (.int .u32 ((a_c l0_1 x3_2).f7)):=(a_a a_N.out 7).trans rfl;have A_W : w67.cell? ⟨a_P,8,none⟩ = some (.int .i64 ((a_c l0_1 x3_2).f8)):=(a_a a_N.out 8).trans rfl;have A_X : w67.cell? ⟨a_P,9,none⟩ = some (.int .i64 ((a_c l0_1 x3_2).f9)):=(a_a a_N.out 9).trans rfl;have w_A : w67.cell? ⟨a_P,10,none⟩ = some (.int .i64 ((a_c l0_1 x3_2).f10)):=(a_a a_N.out 10).trans rfl;have A_Y:=a_b a_N.out 0;have A_Z:=a_b a_N.out 1;have A_0:=a_b a_N.out 2;have A_1:=a_b a_N.out 3;have A_2:=a_b a_N.out 4;have A_3:=a_b a_N.out 5;have A_4:=a_b a_N.out 6;have A_5:=a_b a_N.out 7;have A_6:=a_b a_N.out 8;have A_7:=a_b a_N.out 9;have w_B:=a_b a_N.out 10))
          go_roundg k4
          case measure => have:=HJ1.out;have:=HK2.out;have:=HJ9.out;have:=HK4.out;omega
          case rel => exact ⟨(x5_4),(wrap64 (x6_4 + 1)),(by first|rfl|(simp;done)|(simp [*];done)),(by first|rfl|(simp;done)|(simp [*];done)),H',⟨by have:=HJ1.out;have:=HK2.out;have:=HJ9.out;have:=HK4.out;omega⟩,⟨by (with_reducible repeat (first|refine a_l ?_ _|refine a_m ?_|refine a_j ?_ _));refine a_L ?_ b_z.out _;(with_reducible repeat (first|refine a_l ?_ _|refine a_m ?_|refine a_j ?_ _));refine a_L ?_ b_z.out _;(with_reducible repeat (first|refine a_l ?_ _|refine a_m ?_|refine a_j ?_ _));refine a_L ?_ b_z.out _;(with_reducible repeat (first|refine a_l ?_ _|refine a_m ?_|refine a_j ?_ _));refine a_L ?_ b_z.out _;(with_reducible repeat (first|refine a_l ?_ _|refine a_m ?_|refine a_j ?_ _));refine a_L ?_ b_z.out _;(with_reducible repeat (first|refine a_l ?_ _|refine a_m ?_|refine a_j ?_ _));refine a_L ?_ b_z.out _;(with_reducible repeat (first|refine a_l ?_ _|refine a_m ?_|refine a_j ?_ _));refine a_L ?_ b_z.out _;(with_reducible repeat (first|refine a_l ?_ _|refine a_m ?_|refine a_j ?_ _));refine a_L ?_ b_z.out _;(with_reducible repeat (first|refine a_l ?_ _|refine a_m ?_|refine a_j ?_ _));refine a_L ?_ b_z.out _;(with_reducible repeat (first|refine a_l ?_ _|refine a_m ?_|refine a_j ?_ _));refine a_L ?_ b_z.out _;(with_reducible repeat (first|refine a_l ?_ _|refine a_m ?_|refine a_j ?_ _));refine a_L ?_ b_z.out _;(with_reducible repeat (first|refine a_l ?_ _|refine a_m ?_|refine a_j ?_ _));exact b_o.out⟩,⟨by (with_reducible repeat (first|refine a_l ?_ _|refine a_m ?_|refine a_j ?_ _));refine a_L ?_ b_A.out _;(with_reducible repeat (first|refine a_l ?_ _|refine a_m ?_|refine a_j ?_ _));refine a_L ?_ b_A.out _;(with_reducible repeat (first|refine a_l ?_ _|refine a_m ?_|refine a_j ?_ _));refine a_L ?_ b_A.out _;(with_reducible repeat (first|refine a_l ?_ _|refine a_m ?_|refine a_j ?_ _));refine a_L ?_ b_A.out _;(with_reducible repeat (first|refine a_l ?_ _|refine a_m ?_|refine a_j ?_ _));refine a_L ?_ b_A.out _;(with_reducible repeat (first|refine a_l ?_ _|refine a_m ?_|refine a_j ?_ _));refine a_L ?_ b_A.out _;(with_reducible repeat (first|refine a_l ?_ _|refine a_m ?_|refine a_j ?_ _));refine a_L ?_ b_A.out _;(with_reducible repeat (first|refine a_l ?_ _|refine a_m ?_|refine a_j ?_ _));refine a_L ?_ b_A.out _;(with_reducible repeat (first|refine a_l ?_ _|refine a_m ?_|refine a_j ?_ _));refine a_L ?_ b_A.out _;(with_reducible repeat (first|refine a_l ?_ _|refine a_m ?_|refine a_j ?_ _));refine a_L ?_ b_A.out _;(with_reducible repeat (first|refine a_l ?_ _|refine a_m ?_|refine a_j ?_ _));refine a_L ?_ b_A.out _;(with_reducible repeat (first|refine a_l ?_ _|refine a_m ?_|refine a_j ?_ _));exact a_N.out⟩,⟨by repeat (first|(with_reducible first|exact HB.out|apply a_g|apply a_e|apply a_h|refine a_f ?_ d_b.out|refine a_f ?_ d_Q.out|refine a_f ?_ j_W.out)|exact HB.out)⟩⟩
         rw [if_pos c33] at H
         have c33b0 : (((a_c l0_1 x6_4).f1) == ((a_c l0_1 x3_2).f1)) = true:=beq_iff_eq.mpr c33
         have c33b1 : (((a_c l0_1 x6_4).f1) != ((a_c l0_1 x3_2).f1)) = false:=bne_eq_false_iff_eq.mpr c33
         clear c33
         by_cases c34 : ((a_c l0_1 x6_4).f8) = ((a_c l0_1 x3_2).f8)
         rotate_left
         ·rw [if_neg c34] at H
          have c34b0 : (((a_c l0_1 x6_4).f8) == ((a_c l0_1 x3_2).f8)) = false:=beq_eq_false_iff_ne.mpr c34
          have c34b1 : (((a_c l0_1 x6_4).f8) != ((a_c l0_1 x3_2).f8)) = true:=bne_iff_ne.mpr c34
          obtain rfl:=Option.some.inj H
          have G_Z:=b_h.out
          have G_0:=e_o.out
          have A_8 : wr.cell? ⟨c_3,0,none⟩ = some (.int .i64 a0_0):=(a_a b_o.out 0).trans rfl
          have A_9 : wr.cell? ⟨c_3,1,none⟩ = some (.slice (some ad213) l0_1.length c0_1):=(a_a b_o.out 1).trans rfl
          have B_a:=a_b b_o.out 0
          have B_b:=a_b b_o.out 1
          have p217 : 0 ≤ (x6_4 : Int):=of_decide_eq_true (by first|(with_reducible assumption)|assumption)
          have q217 : x6_4 < (l0_1.length : Int):=of_decide_eq_true (by first|(with_reducible assumption)|assumption)
          obtain ⟨ad217,e217,d_j,d_k,d_l,d_m,d_n,d_o,d_p,d_q,d_r,d_s,c_C⟩:=d_g d_i.out x6_4 p217 q217
          obtain rfl : ad213 = ad217:=(by injection e217)
          replace d_j:=(HB.out.cell (World.block_lt_of_cell? w _ d_j)).trans d_j
          replace d_k:=(HB.out.cell (World.block_lt_of_cell? w _ d_k)).trans d_k
          replace d_l:=(HB.out.cell (World.block_lt_of_cell? w _ d_l)).trans d_l
          replace d_m:=(HB.out.cell (World.block_lt_of_cell? w _ d_m)).trans d_m
          replace d_n:=(HB.out.cell (World.block_lt_of_cell? w _ d_n)).trans d_n
          replace d_o:=(HB.out.cell (World.block_lt_of_cell? w _ d_o)).trans d_o
          replace d_p:=(HB.out.cell (World.block_lt_of_cell? w _ d_p)).trans d_p
          replace d_q:=(HB.out.cell (World.block_lt_of_cell? w _ d_q)).trans d_q
          replace d_r:=(HB.out.cell (World.block_lt_of_cell? w _ d_r)).trans d_r
          replace d_s:=(HB.out.cell (World.block_lt_of_cell? w _ d_s)).trans d_s
          replace c_C:=(HB.out.cell (World.block_lt_of_cell? w _ c_C)).trans c_C
          replace p217:=eq_true p217
          replace q217:=eq_true q217
          go_wp2_with (first|((with_reducible refine a_J (N:=7) rfl ?_);refine a_C ?hg (N:=7) ?hd (cs:=#[.int .i64 0,.int .i64 0,.int .i64 0,.int .i64 0,.int .i64 0,.bool false,.bool false,.int .u32 0,.int .i64 0,.int .i64 0,.int .i64 0]) (t:=65) ?hr ?_;(case hd => rfl);(case hg => rfl);(case hr => first|(go_simp;done)|(go_simp;rfl));intro b_K hg w60 hbox hb;have b_n:=a_d.mk (hbox);have r_l:=a_d.mk ((by rw [hg];exact (a_n (by repeat (first|(with_reducible first|exact HB.out|apply a_g|apply a_e|apply a_h|refine a_f ?_ d_b.out|refine a_f ?_ d_Q.out)|exact HB.out))) : w.heap.size ≤ b_K));have j_W:=a_d.mk ((by rw [hg];exact (a_n (by repeat (first|(with_reducible first|exact HB.out|apply a_g|apply a_e|apply a_h|refine a_f ?_ d_b.out|refine a_f ?_ d_Q.out)|exact HB.out))) : w.heap.size ≤ b_K));have b_z:=a_d.mk ((by rw [hg];exact Nat.ne_of_lt (a_Q (bup_ b_o.out)) : c_3 ≠ b_K));have d_9:=a_d.mk ((by rw [hg];exact Nat.ne_of_gt (a_Q (bup_ b_o.out)) : b_K ≠ c_3));have b_A:=a_d.mk ((by rw [hg];exact Nat.ne_of_lt (a_Q (bup_ a_N.out)) : a_P ≠ b_K));have e_a:=a_d.mk ((by rw [hg];exact Nat.ne_of_gt (a_Q (bup_ a_N.out)) : b_K ≠ a_P));replace b_o:=a_d.mk (a_i (bup_ b_o.out) hb);replace a_N:=a_d.mk (a_i (bup_ a_N.out) hb);replace HB:=a_d.mk (a_o (by repeat (first|(with_reducible first|exact HB.out|apply a_g|apply a_e|apply a_h|refine a_f ?_ d_b.out|refine a_f ?_ d_Q.out)|exact HB.out)) hb);clear hb hbox hg;have v_m:=d_9.out;have v_n:=b_z.out;have G_1:=e_a.out;have G_2:=b_A.out;have B_c : w60.cell? ⟨b_K,0,none⟩ = some (.int .i64 0):=(a_a b_n.out 0).trans rfl;have B_d : w60.cell? ⟨b_K,1,none⟩ = some (.int .i64 0):=(a_a b_n.out 1).trans rfl;have B_e : w60.cell? ⟨b_K,2,none⟩ = some (.int .i64 0):=(a_a b_n.out 2).trans rfl;have B_f : w60.cell? ⟨b_K,3,none⟩ = some (.int .i64 0):=(a_a b_n.out 3).trans rfl;have B_g : w60.cell? ⟨b_K,4,none⟩ = some (.int .i64 0):=(a_a b_n.out 4).trans rfl;have B_h : w60.cell? ⟨b_K,5,none⟩ = some (.bool false):=(a_a b_n.out 5).trans rfl;have B_i : w60.cell? ⟨b_K,6,none⟩ = some (.bool false):=(a_a b_n.out 6).trans rfl;have B_j : w60.cell? ⟨b_K,7,none⟩ = some (.int .u32 0):=(a_a b_n.out 7).trans rfl;have B_k : w60.cell? ⟨b_K,8,none⟩ = some (.int .i64 0):=(a_a b_n.out 8).trans rfl;have B_l : w60.cell? ⟨b_K,9,none⟩ = some (.int .i64 0):=(a_a b_n.out 9).trans rfl;have w_C : w60.cell? ⟨b_K,10,none⟩ = some (.int .i64 0):=(a_a b_n.out 10).trans rfl;have B_m:=a_b b_n.out 0;have B_n:=a_b b_n.out 1;have B_o:=a_b b_n.out 2;have B_p:=a_b b_n.out 3;have B_q:=a_b b_n.out 4;have B_r:=a_b b_n.out 5;have B_s:=a_b b_n.out 6;have B_t:=a_b b_n.out 7;have B_u:=a_b b_n.out 8;have B_v:=a_b b_n.out 9;have w_D:=a_b b_n.out 10;have t_r : w60.cell? ⟨a_P,0,none⟩ = some (.int .i64 ((a_c l0_1 x3_2).f0)):=(a_a a_N.out 0).trans rfl;have t_s : w60.cell? ⟨a_P,1,none⟩ = some (.int .i64 ((a_c l0_1 x3_2).f1)):=(a_a a_N.out 1).trans rfl;have B_w : w60.cell? ⟨a_P,2,none⟩ = some (.int .i64 ((a_c l0_1 x3_2).f2)):=(a_a a_N.out 2).trans rfl;have B_x : w60.cell? ⟨a_P,3,none⟩ = some (.int .i64 ((a_c l0_1 x3_2).f3)):=(a_a a_N.out 3).trans rfl;have B_y : w60.cell? ⟨a_P,4,none⟩ = some (.int .i64 ((a_c l0_1 x3_2).f4)):=(a_a a_N.out 4).trans rfl;have B_z : w60.cell? ⟨a_P,5,none⟩ = some (.bool ((a_c l0_1 x3_2).f5)):=(a_a a_N.out 5).trans rfl;have B_A : w60.cell? ⟨a_P,6,none⟩ = some (.bool ((a_c l0_1 x3_2).f6)):=(a_a a_N.out 6).trans rfl;have B_B : w60.cell? ⟨a_P,7,none⟩ = some (.int .u32 ((a_c l0_1 x3_2).f7)):=(a_a a_N.out 7).trans rfl;have B_C : w60.cell? ⟨a_P,8,none⟩ = some (.int .i64 ((a_c l0_1 x3_2).f8)):=(a_a a_N.out 8).trans rfl;have B_D : w60.cell? ⟨a_P,9,none⟩ = some (.int .i64 ((a_c l0_1 x3_2).f9)):=(a_a a_N.out 9).trans rfl;have w_E : w60.cell? ⟨a_P,10,none⟩ = some (.int .i64 ((a_c l0_1 x3_2).f10)):=(a_a a_N.out 10).trans rfl;have t_t:=a_b a_N.out 0;have t_u:=a_b a_N.out 1;have B_E:=a_b a_N.out 2;have B_F:=a_b a_N.out 3;have B_G:=a_b a_N.out 4;have B_H:=a_b a_N.out 5;have B_I:=a_b a_N.out 6;have B_J:=a_b a_N.out 7;have B_K:=a_b a_N.out 8;have B_L:=a_b a_N.out 9;have w_F:=a_b a_N.out 10))
          go_ret
          exact ⟨by first|rfl|(simp [a_w,a_x] <;> rfl)|(simp [*, a_w,a_x] <;> rfl),by repeat (first|(with_reducible first|exact HB.out|apply a_g|apply a_e|apply a_h|refine a_f ?_ d_b.out|refine a_f ?_ d_Q.out|refine a_f ?_ j_W.out)|exact HB.out)⟩
         rw [if_pos c34] at H
         have c34b0 : (((a_c l0_1 x6_4).f8) == ((a_c l0_1 x3_2).f8)) = true:=beq_iff_eq.mpr c34
         have c34b1 : (((a_c l0_1 x6_4).f8) != ((a_c l0_1 x3_2).f8)) = false:=bne_eq_false_iff_eq.mpr c34
         clear c34
         by_cases c35 : ((a_c l0_1 x6_4).f9) = ((a_c l0_1 x3_2).f9)
         rotate_left
         ·rw [if_neg c35] at H
          have c35b0 : (((a_c l0_1 x6_4).f9) == ((a_c l0_1 x3_2).f9)) = false:=beq_eq_false_iff_ne.mpr c35
          have c35b1 : (((a_c l0_1 x6_4).f9) != ((a_c l0_1 x3_2).f9)) = true:=bne_iff_ne.mpr c35
          obtain rfl:=Option.some.inj H
          have B_M:=b_h.out
          have B_N:=e_o.out
          have p_q : wr.cell? ⟨c_3,0,none⟩ = some (.int .i64 a0_0):=(a_a b_o.out 0).trans rfl
          have p_r : wr.cell? ⟨c_3,1,none⟩ = some (.slice (some ad213) l0_1.length c0_1):=(a_a b_o.out 1).trans rfl
          have p_s:=a_b b_o.out 0
          have p_t:=a_b b_o.out 1
          have p217 : 0 ≤ (x6_4 : Int):=of_decide_eq_true (by first|(with_reducible assumption)|assumption)
          have q217 : x6_4 < (l0_1.length : Int):=of_decide_eq_true (by first|(with_reducible assumption)|assumption)
          obtain ⟨ad217,e217,d_j,d_k,d_l,d_m,d_n,d_o,d_p,d_q,d_r,d_s,c_C⟩:=d_g d_i.out x6_4 p217 q217
          obtain rfl : ad213 = ad217:=(by injection e217)
          replace d_j:=(HB.out.cell (World.block_lt_of_cell? w _ d_j)).trans d_j
          replace d_k:=(HB.out.cell (World.block_lt_of_cell? w _ d_k)).trans d_k
          replace d_l:=(HB.out.cell (World.block_lt_of_cell? w _ d_l)).trans d_l
          replace d_m:=(HB.out.cell (World.block_lt_of_cell? w _ d_m)).trans d_m
          replace d_n:=(HB.out.cell (World.block_lt_of_cell? w _ d_n)).trans d_n
          replace d_o:=(HB.out.cell (World.block_lt_of_cell? w _ d_o)).trans d_o
          replace d_p:=(HB.out.cell (World.block_lt_of_cell? w _ d_p)).trans d_p
          replace d_q:=(HB.out.cell (World.block_lt_of_cell? w _ d_q)).trans d_q
          replace d_r:=(HB.out.cell (World.block_lt_of_cell? w _ d_r)).trans d_r
          replace d_s:=(HB.out.cell (World.block_lt_of_cell? w _ d_s)).trans d_s
          replace c_C:=(HB.out.cell (World.block_lt_of_cell? w _ c_C)).trans c_C
          replace p217:=eq_true p217
          replace q217:=eq_true q217
          go_wp2_with (first|((with_reducible refine a_J (N:=7) rfl ?_);refine a_C ?hg (N:=7) ?hd (cs:=#[.int .i64 0,.int .i64 0,.int .i64 0,.int .i64 0,.int .i64 0,.bool false,.bool false,.int .u32 0,.int .i64 0,.int .i64 0,.int .i64 0]) (t:=65) ?hr ?_;(case hd => rfl);(case hg => rfl);(case hr => first|(go_simp;done)|(go_simp;rfl));intro b_K hg w53 hbox hb;have b_n:=a_d.mk (hbox);have r_l:=a_d.mk ((by rw [hg];exact (a_n (by repeat (first|(with_reducible first|exact HB.out|apply a_g|apply a_e|apply a_h|refine a_f ?_ d_b.out|refine a_f ?_ d_Q.out)|exact HB.out))) : w.heap.size ≤ b_K));have j_W:=a_d.mk ((by rw [hg];exact (a_n (by repeat (first|(with_reducible first|exact HB.out|apply a_g|apply a_e|apply a_h|refine a_f ?_ d_b.out|refine a_f ?_ d_Q.out)|exact HB.out))) : w.heap.size ≤ b_K));have b_z:=a_d.mk ((by rw [hg];exact Nat.ne_of_lt (a_Q (bup_ b_o.out)) : c_3 ≠ b_K));have d_9:=a_d.mk ((by rw [hg];exact Nat.ne_of_gt (a_Q (bup_ b_o.out)) : b_K ≠ c_3));have b_A:=a_d.mk ((by rw [hg];exact Nat.ne_of_lt (a_Q (bup_ a_N.out)) : a_P ≠ b_K));have e_a:=a_d.mk ((by rw [hg];exact Nat.ne_of_gt (a_Q (bup_ a_N.out)) : b_K ≠ a_P));replace b_o:=a_d.mk (a_i (bup_ b_o.out) hb);replace a_N:=a_d.mk (a_i (bup_ a_N.out) hb);replace HB:=a_d.mk (a_o (by repeat (first|(with_reducible first|exact HB.out|apply a_g|apply a_e|apply a_h|refine a_f ?_ d_b.out|refine a_f ?_ d_Q.out)|exact HB.out)) hb);clear hb hbox hg;have G_3:=d_9.out;have G_4:=b_z.out;have B_O:=e_a.out;have B_P:=b_A.out;have t_v : w53.cell? ⟨b_K,0,none⟩ = some (.int .i64 0):=(a_a b_n.out 0).trans rfl;have t_w : w53.cell? ⟨b_K,1,none⟩ = some (.int .i64 0):=(a_a b_n.out 1).trans rfl;have B_Q : w53.cell? ⟨b_K,2,none⟩ = some (.int .i64 0):=(a_a b_n.out 2).trans rfl;have B_R : w53.cell? ⟨b_K,3,none⟩ = some (.int .i64 0):=(a_a b_n.out 3).trans rfl;have B_S : w53.cell? ⟨b_K,4,none⟩ = some (.int .i64 0):=(a_a b_n.out 4).trans rfl;have B_T : w53.cell? ⟨b_K,5,none⟩ = some (.bool false):=(a_a b_n.out 5).trans rfl;have B_U : w53.cell? ⟨b_K,6,none⟩ = some (.bool false):=(a_a b_n.out 6).trans rfl;have B_V : w53.cell? ⟨b_K,7,none⟩ = some (.int .u32 0):=(a_a b_n.out 7).trans rfl;have B_W : w53.cell? ⟨b_K,8,none⟩ = some (.int .i64 0):=(a_a b_n.out 8).trans rfl;have B_X : w53.cell? ⟨b_K,9,none⟩ = some (.int .i64 0):=(a_a b_n.out 9).trans rfl;have w_G : w53.cell? ⟨b_K,10,none⟩ = some (.int .i64 0):=(a_a b_n.out 10).trans rfl;have t_x:=a_b b_n.out 0;have t_y:=a_b b_n.out 1;have B_Y:=a_b b_n.out 2;have B_Z:=a_b b_n.out 3;have B_0:=a_b b_n.out 4;have B_1:=a_b b_n.out 5;have B_2:=a_b b_n.out 6;have B_3:=a_b b_n.out 7;have B_4:=a_b b_n.out 8;have B_5:=a_b b_n.out 9;have w_H:=a_b b_n.out 10;have B_6 : w53.cell? ⟨a_P,0,none⟩ = some (.int .i64 ((a_c l0_1 x3_2).f0)):=(a_a a_N.out 0).trans rfl;have B_7 : w53.cell? ⟨a_P,1,none⟩ = some (.int .i64 ((a_c l0_1 x3_2).f1)):=(a_a a_N.out 1).trans rfl;have B_8 : w53.cell? ⟨a_P,2,none⟩ = some (.int .i64 ((a_c l0_1 x3_2).f2)):=(a_a a_N.out 2).trans rfl;have B_9 : w53.cell? ⟨a_P,3,none⟩ = some (.int .i64 ((a_c l0_1 x3_2).f3)):=(a_a a_N.out 3).trans rfl;have C_a : w53.cell? ⟨a_P,4,none⟩ = some (.int .i64 ((a_c l0_1 x3_2).f4)):=(a_a a_N.out 4).trans rfl;have C_b : w53.cell? ⟨a_P,5,none⟩ = some (.bool ((a_c l0_1 x3_2).f5)):=(a_a a_N.out 5).trans rfl;have C_c : w53.cell? ⟨a_P,6,none⟩ = some (.bool ((a_c l0_1 x3_2).f6)):=(a_a a_N.out 6).trans rfl;have C_d : w53.cell? ⟨a_P,7,none⟩ = some (.int .u32 ((a_c l0_1 x3_2).f7)):=(a_a a_N.out 7).trans rfl;have C_e : w53.cell? ⟨a_P,8,none⟩ = some (.int .i64 ((a_c l0_1 x3_2).f8)):=(a_a a_N.out 8).trans rfl;have C_f : w53.cell? ⟨a_P,9,none⟩ = some (.int .i64 ((a_c l0_1 x3_2).f9)):=(a_a a_N.out 9).trans rfl;have w_I : w53.cell? ⟨a_P,10,none⟩ = some (.int .i64 ((a_c l0_1 x3_2).f10)):=(a_a a_N.out 10).trans rfl;have C_g:=a_b a_N.out 0;have C_h:=a_b a_N.out 1;have C_i:=a_b a_N.out 2;have C_j:=a_b a_N.out 3;have C_k:=a_b a_N.out 4;have C_l:=a_b a_N.out 5;have C_m:=a_b a_N.out 6;have C_n:=a_b a_N.out 7;have C_o:=a_b a_N.out 8;have C_p:=a_b a_N.out 9;have w_J:=a_b a_N.out 10))
          go_ret
          exact ⟨by first|rfl|(simp [a_w,a_x] <;> rfl)|(simp [*, a_w,a_x] <;> rfl),by repeat (first|(with_reducible first|exact HB.out|apply a_g|apply a_e|apply a_h|refine a_f ?_ d_b.out|refine a_f ?_ d_Q.out|refine a_f ?_ j_W.out)|exact HB.out)⟩
         rw [if_pos c35] at H
         have c35b0 : (((a_c l0_1 x6_4).f9) == ((a_c l0_1 x3_2).f9)) = true:=beq_iff_eq.mpr c35
         have c35b1 : (((a_c l0_1 x6_4).f9) != ((a_c l0_1 x3_2).f9)) = false:=bne_eq_false_iff_eq.mpr c35
         clear c35
         by_cases c36 : ((a_c l0_1 x6_4).f10) = ((a_c l0_1 x3_2).f10)
         rotate_left
         ·rw [if_neg c36] at H
          have c36b0 : (((a_c l0_1 x6_4).f10) == ((a_c l0_1 x3_2).f10)) = false:=beq_eq_false_iff_ne.mpr c36
          have c36b1 : (((a_c l0_1 x6_4).f10) != ((a_c l0_1 x3_2).f10)) = true:=bne_iff_ne.mpr c36
          obtain rfl:=Option.some.inj H
          have G_5:=b_h.out
          have G_6:=e_o.out
          have C_q : wr.cell? ⟨c_3,0,none⟩ = some (.int .i64 a0_0):=(a_a b_o.out 0).trans rfl
          have C_r : wr.cell? ⟨c_3,1,none⟩ = some (.slice (some ad213) l0_1.length c0_1):=(a_a b_o.out 1).trans rfl
          have C_s:=a_b b_o.out 0
          have C_t:=a_b b_o.out 1
          have p217 : 0 ≤ (x6_4 : Int):=of_decide_eq_true (by first|(with_reducible assumption)|assumption)
          have q217 : x6_4 < (l0_1.length : Int):=of_decide_eq_true (by first|(with_reducible assumption)|assumption)
          obtain ⟨ad217,e217,d_j,d_k,d_l,d_m,d_n,d_o,d_p,d_q,d_r,d_s,c_C⟩:=d_g d_i.out x6_4 p217 q217
          obtain rfl : ad213 = ad217:=(by injection e217)
          replace d_j:=(HB.out.cell (World.block_lt_of_cell? w _ d_j)).trans d_j
          replace d_k:=(HB.out.cell (World.block_lt_of_cell? w _ d_k)).trans d_k
          replace d_l:=(HB.out.cell (World.block_lt_of_cell? w _ d_l)).trans d_l
          replace d_m:=(HB.out.cell (World.block_lt_of_cell? w _ d_m)).trans d_m
          replace d_n:=(HB.out.cell (World.block_lt_of_cell? w _ d_n)).trans d_n
          replace d_o:=(HB.out.cell (World.block_lt_of_cell? w _ d_o)).trans d_o
          replace d_p:=(HB.out.cell (World.block_lt_of_cell? w _ d_p)).trans d_p
          replace d_q:=(HB.out.cell (World.block_lt_of_cell? w _ d_q)).trans d_q
          replace d_r:=(HB.out.cell (World.block_lt_of_cell? w _ d_r)).trans d_r
          replace d_s:=(HB.out.cell (World.block_lt_of_cell? w _ d_s)).trans d_s
          replace c_C:=(HB.out.cell (World.block_lt_of_cell? w _ c_C)).trans c_C
          replace p217:=eq_true p217
          replace q217:=eq_true q217
          go_wp2_with (first|((with_reducible refine a_J (N:=7) rfl ?_);refine a_C ?hg (N:=7) ?hd (cs:=#[.int .i64 0,.int .i64 0,.int .i64 0,.int .i64 0,.int .i64 0,.bool false,.bool false,.int .u32 0,.int .i64 0,.int .i64 0,.int .i64 0]) (t:=65) ?hr ?_;(case hd => rfl);(case hg => rfl);(case hr => first|(go_simp;done)|(go_simp;rfl));intro b_K hg w46 hbox hb;have b_n:=a_d.mk (hbox);have r_l:=a_d.mk ((by rw [hg];exact (a_n (by repeat (first|(with_reducible first|exact HB.out|apply a_g|apply a_e|apply a_h|refine a_f ?_ d_b.out|refine a_f ?_ d_Q.out)|exact HB.out))) : w.heap.size ≤ b_K));have j_W:=a_d.mk ((by rw [hg];exact (a_n (by repeat (first|(with_reducible first|exact HB.out|apply a_g|apply a_e|apply a_h|refine a_f ?_ d_b.out|refine a_f ?_ d_Q.out)|exact HB.out))) : w.heap.size ≤ b_K));have b_z:=a_d.mk ((by rw [hg];exact Nat.ne_of_lt (a_Q (bup_ b_o.out)) : c_3 ≠ b_K));have d_9:=a_d.mk ((by rw [hg];exact Nat.ne_of_gt (a_Q (bup_ b_o.out)) : b_K ≠ c_3));have b_A:=a_d.mk ((by rw [hg];exact Nat.ne_of_lt (a_Q (bup_ a_N.out)) : a_P ≠ b_K));have e_a:=a_d.mk ((by rw [hg];exact Nat.ne_of_gt (a_Q (bup_ a_N.out)) : b_K ≠ a_P));replace b_o:=a_d.mk (a_i (bup_ b_o.out) hb);replace a_N:=a_d.mk (a_i (bup_ a_N.out) hb);replace HB:=a_d.mk (a_o (by repeat (first|(with_reducible first|exact HB.out|apply a_g|apply a_e|apply a_h|refine a_f ?_ d_b.out|refine a_f ?_ d_Q.out)|exact HB.out)) hb);clear hb hbox hg;have C_u:=d_9.out;have C_v:=b_z.out;have G_7:=e_a.out;have G_8:=b_A.out;have C_w : w46.cell? ⟨b_K,0,none⟩ = some (.int .i64 0):=(a_a b_n.out 0).trans rfl;have C_x : w46.cell? ⟨b_K,1,none⟩ = some (.int .i64 0):=(a_a b_n.out 1).trans rfl;have C_y : w46.cell? ⟨b_K,2,none⟩ = some (.int .i64 0):=(a_a b_n.out 2).trans rfl;have C_z : w46.cell? ⟨b_K,3,none⟩ = some (.int .i64 0):=(a_a b_n.out 3).trans rfl;have C_A : w46.cell? ⟨b_K,4,none⟩ = some (.int .i64 0):=(a_a b_n.out 4).trans rfl;have C_B : w46.cell? ⟨b_K,5,none⟩ = some (.bool false):=(a_a b_n.out 5).trans rfl;have C_C : w46.cell? ⟨b_K,6,none⟩ = some (.bool false):=(a_a b_n.out 6).trans rfl;have C_D : w46.cell? ⟨b_K,7,none⟩ = some (.int .u32 0):=(a_a b_n.out 7).trans rfl;have C_E : w46.cell? ⟨b_K,8,none⟩ = some (.int .i64 0):=(a_a b_n.out 8).trans rfl;have C_F : w46.cell? ⟨b_K,9,none⟩ = some (.int .i64 0):=(a_a b_n.out 9).trans rfl;have w_K : w46.cell? ⟨b_K,10,none⟩ = some (.int .i64 0):=(a_a b_n.out 10).trans rfl;have C_G:=a_b b_n.out 0;have C_H:=a_b b_n.out 1;have C_I:=a_b b_n.out 2;have C_J:=a_b b_n.out 3;have C_K:=a_b b_n.out 4;have C_L:=a_b b_n.out 5;have C_M:=a_b b_n.out 6;have C_N:=a_b b_n.out 7;have C_O:=a_b b_n.out 8;have C_P:=a_b b_n.out 9;have w_L:=a_b b_n.out 10;have p_u : w46.cell? ⟨a_P,0,none⟩ = some (.int .i64 ((a_c l0_1 x3_2).f0)):=(a_a a_N.out 0).trans rfl;have p_v : w46.cell? ⟨a_P,1,none⟩ = some (.int .i64 ((a_c l0_1 x3_2).f1)):=(a_a a_N.out 1).trans rfl;have s_F : w46.cell? ⟨a_P,2,none⟩ = some (.int .i64 ((a_c l0_1 x3_2).f2)):=(a_a a_N.out 2).trans rfl;have s_G : w46.cell? ⟨a_P,3,none⟩ = some (.int .i64 ((a_c l0_1 x3_2).f3)):=(a_a a_N.out 3).trans rfl;have s_H : w46.cell? ⟨a_P,4,none⟩ = some (.int .i64 ((a_c l0_1 x3_2).f4)):=(a_a a_N.out 4).trans rfl;have s_I : w46.cell? ⟨a_P,5,none⟩ = some (.bool ((a_c l0_1 x3_2).f5)):=(a_a a_N.out 5).trans rfl;have s_J : w46.cell? ⟨a_P,6,none⟩ = some (.bool ((a_c l0_1 x3_2).f6)):=(a_a a_N.out 6).trans rfl;have s_K : w46.cell? ⟨a_P,7,none⟩ = some (.int .u32 ((a_c l0_1 x3_2).f7)):=(a_a a_N.out 7).trans rfl;have s_L : w46.cell? ⟨a_P,8,none⟩ = some (.int .i64 ((a_c l0_1 x3_2).f8)):=(a_a a_N.out 8).trans rfl;have s_M : w46.cell? ⟨a_P,9,none⟩ = some (.int .i64 ((a_c l0_1 x3_2).f9)):=(a_a a_N.out 9).trans rfl;have r_h : w46.cell? ⟨a_P,10,none⟩ = some (.int .i64 ((a_c l0_1 x3_2).f10)):=(a_a a_N.out 10).trans rfl;have p_w:=a_b a_N.out 0;have p_x:=a_b a_N.out 1;have s_N:=a_b a_N.out 2;have s_O:=a_b a_N.out 3;have s_P:=a_b a_N.out 4;have s_Q:=a_b a_N.out 5;have s_R:=a_b a_N.out 6;have s_S:=a_b a_N.out 7;have s_T:=a_b a_N.out 8;have s_U:=a_b a_N.out 9;have r_i:=a_b a_N.out 10))
          go_ret
          exact ⟨by first|rfl|(simp [a_w,a_x] <;> rfl)|(simp [*, a_w,a_x] <;> rfl),by repeat (first|(with_reducible first|exact HB.out|apply a_g|apply a_e|apply a_h|refine a_f ?_ d_b.out|refine a_f ?_ d_Q.out|refine a_f ?_ j_W.out)|exact HB.out)⟩
         rw [if_pos c36] at H
         have c36b0 : (((a_c l0_1 x6_4).f10) == ((a_c l0_1 x3_2).f10)) = true:=beq_iff_eq.mpr c36
         have c36b1 : (((a_c l0_1 x6_4).f10) != ((a_c l0_1 x3_2).f10)) = false:=bne_eq_false_iff_eq.mpr c36
         clear c36
         have H':=a_d.mk H
         clear H
         have G_9:=b_h.out
         have H_a:=e_o.out
         have t_z : wr.cell? ⟨c_3,0,none⟩ = some (.int .i64 a0_0):=(a_a b_o.out 0).trans rfl
         have t_A : wr.cell? ⟨c_3,1,none⟩ = some (.slice (some ad213) l0_1.length c0_1):=(a_a b_o.out 1).trans rfl
         have t_B:=a_b b_o.out 0
         have t_C:=a_b b_o.out 1
         have p217 : 0 ≤ (x6_4 : Int):=of_decide_eq_true (by first|(with_reducible assumption)|assumption)
         have q217 : x6_4 < (l0_1.length : Int):=of_decide_eq_true (by first|(with_reducible assumption)|assumption)
         obtain ⟨ad217,e217,d_j,d_k,d_l,d_m,d_n,d_o,d_p,d_q,d_r,d_s,c_C⟩:=d_g d_i.out x6_4 p217 q217
         obtain rfl : ad213 = ad217:=(by injection e217)
         replace d_j:=(HB.out.cell (World.block_lt_of_cell? w _ d_j)).trans d_j
         replace d_k:=(HB.out.cell (World.block_lt_of_cell? w _ d_k)).trans d_k
         replace d_l:=(HB.out.cell (World.block_lt_of_cell? w _ d_l)).trans d_l
         replace d_m:=(HB.out.cell (World.block_lt_of_cell? w _ d_m)).trans d_m
         replace d_n:=(HB.out.cell (World.block_lt_of_cell? w _ d_n)).trans d_n
         replace d_o:=(HB.out.cell (World.block_lt_of_cell? w _ d_o)).trans d_o
         replace d_p:=(HB.out.cell (World.block_lt_of_cell? w _ d_p)).trans d_p
         replace d_q:=(HB.out.cell (World.block_lt_of_cell? w _ d_q)).trans d_q
         replace d_r:=(HB.out.cell (World.block_lt_of_cell? w _ d_r)).trans d_r
         replace d_s:=(HB.out.cell (World.block_lt_of_cell? w _ d_s)).trans d_s
         replace c_C:=(HB.out.cell (World.block_lt_of_cell? w _ c_C)).trans c_C
         replace p217:=eq_true p217
         replace q217:=eq_true q217
         go_wp2_with (first|((with_reducible refine a_J (N:=7) rfl ?_);refine a_C ?hg (N:=7) ?hd (cs:=#[.int .i64 0,.int .i64 0,.int .i64 0,.int .i64 0,.int .i64 0,.bool false,.bool false,.int .u32 0,.int .i64 0,.int .i64 0,.int .i64 0]) (t:=65) ?hr ?_;(case hd => rfl);(case hg => rfl);(case hr => first|(go_simp;done)|(go_simp;rfl));intro b_K hg w39 hbox hb;have b_n:=a_d.mk (hbox);have r_l:=a_d.mk ((by rw [hg];exact (a_n (by repeat (first|(with_reducible first|exact HB.out|apply a_g|apply a_e|apply a_h|refine a_f ?_ d_b.out|refine a_f ?_ d_Q.out)|exact HB.out))) : w.heap.size ≤ b_K));have j_W:=a_d.mk ((by rw [hg];exact (a_n (by repeat (first|(with_reducible first|exact HB.out|apply a_g|apply a_e|apply a_h|refine a_f ?_ d_b.out|refine a_f ?_ d_Q.out)|exact HB.out))) : w.heap.size ≤ b_K));have b_z:=a_d.mk ((by rw [hg];exact Nat.ne_of_lt (a_Q (bup_ b_o.out)) : c_3 ≠ b_K));have d_9:=a_d.mk ((by rw [hg];exact Nat.ne_of_gt (a_Q (bup_ b_o.out)) : b_K ≠ c_3));have b_A:=a_d.mk ((by rw [hg];exact Nat.ne_of_lt (a_Q (bup_ a_N.out)) : a_P ≠ b_K));have e_a:=a_d.mk ((by rw [hg];exact Nat.ne_of_gt (a_Q (bup_ a_N.out)) : b_K ≠ a_P));replace b_o:=a_d.mk (a_i (bup_ b_o.out) hb);replace a_N:=a_d.mk (a_i (bup_ a_N.out) hb);replace HB:=a_d.mk (a_o (by repeat (first|(with_reducible first|exact HB.out|apply a_g|apply a_e|apply a_h|refine a_f ?_ d_b.out|refine a_f ?_ d_Q.out)|exact HB.out)) hb);clear hb hbox hg;have H_b:=d_9.out;have H_c:=b_z.out;have C_Q:=e_a.out;have C_R:=b_A.out;have p_y : w39.cell? ⟨b_K,0,none⟩ = some (.int .i64 0):=(a_a b_n.out 0).trans rfl;have p_z : w39.cell? ⟨b_K,1,none⟩ = some (.int .i64 0):=(a_a b_n.out 1).trans rfl;have s_Z : w39.cell? ⟨b_K,2,none⟩ = some (.int .i64 0):=(a_a b_n.out 2).trans rfl;have s_0 : w39.cell? ⟨b_K,3,none⟩ = some (.int .i64 0):=(a_a b_n.out 3).trans rfl;have s_1 : w39.cell? ⟨b_K,4,none⟩ = some (.int .i64 0):=(a_a b_n.out 4).trans rfl;have s_2 : w39.cell? ⟨b_K,5,none⟩ = some (.bool false):=(a_a b_n.out 5).trans rfl;have s_3 : w39.cell? ⟨b_K,6,none⟩ = some (.bool false):=(a_a b_n.out 6).trans rfl;have s_4 : w39.cell? ⟨b_K,7,none⟩ = some (.int .u32 0):=(a_a b_n.out 7).trans rfl;have s_5 : w39.cell? ⟨b_K,8,none⟩ = some (.int .i64 0):=(a_a b_n.out 8).trans rfl;have s_6 : w39.cell? ⟨b_K,9,none⟩ = some (.int .i64 0):=(a_a b_n.out 9).trans rfl;have r_j : w39.cell? ⟨b_K,10,none⟩ = some (.int .i64 0):=(a_a b_n.out 10).trans rfl;have p_A:=a_b b_n.out 0;have p_B:=a_b b_n.out 1;have s_7:=a_b b_n.out 2;have s_8:=a_b b_n.out 3;have s_9:=a_b b_n.out 4;have t_a:=a_b b_n.out 5;have t_b:=a_b b_n.out 6;have t_c:=a_b b_n.out 7;have t_d:=a_b b_n.out 8;have t_e:=a_b b_n.out 9;have r_k:=a_b b_n.out 10;have C_S : w39.cell? ⟨a_P,0,none⟩ = some (.int .i64 ((a_c l0_1 x3_2).f0)):=(a_a a_N.out 0).trans rfl;have C_T : w39.cell? ⟨a_P,1,none⟩ = some (.int .i64 ((a_c l0_1 x3_2).f1)):=(a_a a_N.out 1).trans rfl;have C_U : w39.cell? ⟨a_P,2,none⟩ = some (.int .i64 ((a_c l0_1 x3_2).f2)):=(a_a a_N.out 2).trans rfl;have C_V : w39.cell? ⟨a_P,3,none⟩ = some (.int .i64 ((a_c l0_1 x3_2).f3)):=(a_a a_N.out 3).trans rfl;have C_W : w39.cell? ⟨a_P,4,none⟩ = some (.int .i64 ((a_c l0_1 x3_2).f4)):=(a_a a_N.out 4).trans rfl;have C_X : w39.cell? ⟨a_P,5,none⟩ = some (.bool ((a_c l0_1 x3_2).f5)):=(a_a a_N.out 5).trans rfl;have C_Y : w39.cell? ⟨a_P,6,none⟩ = some (.bool ((a_c l0_1 x3_2).f6)):=(a_a a_N.out 6).trans rfl;have C_Z : w39.cell? ⟨a_P,7,none⟩ = some (.int .u32 ((a_c l0_1 x3_2).f7)):=(a_a a_N.out 7).trans rfl;have C_0 : w39.cell? ⟨a_P,8,none⟩ = some (.int .i64 ((a_c l0_1 x3_2).f8)):=(a_a a_N.out 8).trans rfl;have C_1 : w39.cell? ⟨a_P,9,none⟩ = some (.int .i64 ((a_c l0_1 x3_2).f9)):=(a_a a_N.out 9).trans rfl;have w_M : w39.cell? ⟨a_P,10,none⟩ = some (.int .i64 ((a_c l0_1 x3_2).f10)):=(a_a a_N.out 10).trans rfl;have C_2:=a_b a_N.out 0;have C_3:=a_b a_N.out 1;have C_4:=a_b a_N.out 2;have C_5:=a_b a_N.out 3;have C_6:=a_b a_N.out 4;have C_7:=a_b a_N.out 5;have C_8:=a_b a_N.out 6;have C_9:=a_b a_N.out 7;have D_a:=a_b a_N.out 8;have D_b:=a_b a_N.out 9;have w_N:=a_b a_N.out 10))
         go_roundg k4
         case measure => have:=HJ1.out;have:=HK2.out;have:=HJ9.out;have:=HK4.out;omega
         case rel => exact ⟨(wrap64 (x5_4 + 1)),(wrap64 (x6_4 + 1)),(by first|rfl|(simp;done)|(simp [*];done)),(by first|rfl|(simp;done)|(simp [*];done)),H',⟨by have:=HJ1.out;have:=HK2.out;have:=HJ9.out;have:=HK4.out;omega⟩,⟨by (with_reducible repeat (first|refine a_l ?_ _|refine a_m ?_|refine a_j ?_ _));refine a_L ?_ b_z.out _;(with_reducible repeat (first|refine a_l ?_ _|refine a_m ?_|refine a_j ?_ _));refine a_L ?_ b_z.out _;(with_reducible repeat (first|refine a_l ?_ _|refine a_m ?_|refine a_j ?_ _));refine a_L ?_ b_z.out _;(with_reducible repeat (first|refine a_l ?_ _|refine a_m ?_|refine a_j ?_ _));refine a_L ?_ b_z.out _;(with_reducible repeat (first|refine a_l ?_ _|refine a_m ?_|refine a_j ?_ _));refine a_L ?_ b_z.out _;(with_reducible repeat (first|refine a_l ?_ _|refine a_m ?_|refine a_j ?_ _));refine a_L ?_ b_z.out _;(with_reducible repeat (first|refine a_l ?_ _|refine a_m ?_|refine a_j ?_ _));refine a_L ?_ b_z.out _;(with_reducible repeat (first|refine a_l ?_ _|refine a_m ?_|refine a_j ?_ _));refine a_L ?_ b_z.out _;(with_reducible repeat (first|refine a_l ?_ _|refine a_m ?_|refine a_j ?_ _));refine a_L ?_ b_z.out _;(with_reducible repeat (first|refine a_l ?_ _|refine a_m ?_|refine a_j ?_ _));refine a_L ?_ b_z.out _;(with_reducible repeat (first|refine a_l ?_ _|refine a_m ?_|refine a_j ?_ _));refine a_L ?_ b_z.out _;(with_reducible repeat (first|refine a_l ?_ _|refine a_m ?_|refine a_j ?_ _));exact b_o.out⟩,⟨by (with_reducible repeat (first|refine a_l ?_ _|refine a_m ?_|refine a_j ?_ _));refine a_L ?_ b_A.out _;(with_reducible repeat (first|refine a_l ?_ _|refine a_m ?_|refine a_j ?_ _));refine a_L ?_ b_A.out _;(with_reducible repeat (first|refine a_l ?_ _|refine a_m ?_|refine a_j ?_ _));refine a_L ?_ b_A.out _;(with_reducible repeat (first|refine a_l ?_ _|refine a_m ?_|refine a_j ?_ _));refine a_L ?_ b_A.out _;(with_reducible repeat (first|refine a_l ?_ _|refine a_m ?_|refine a_j ?_ _));refine a_L ?_ b_A.out _;(with_reducible repeat (first|refine a_l ?_ _|refine a_m ?_|refine a_j ?_ _));refine a_L ?_ b_A.out _;(with_reducible repeat (first|refine a_l ?_ _|refine a_m ?_|refine a_j ?_ _));refine a_L ?_ b_A.out _;(with_reducible repeat (first|refine a_l ?_ _|refine a_m ?_|refine a_j ?_ _));refine a_L ?_ b_A.out _;(with_reducible repeat (first|refine a_l ?_ _|refine a_m ?_|refine a_j ?_ _));refine a_L ?_ b_A.out _;(with_reducible repeat (first|refine a_l ?_ _|refine a_m ?_|refine a_j ?_ _));refine a_L ?_ b_A.out _;(with_reducible repeat (first|refine a_l ?_ _|refine a_m ?_|refine a_j ?_ _));refine a_L ?_ b_A.out _;(with_reducible repeat (first|refine a_l ?_ _|refine a_m ?_|refine a_j ?_ _));exact a_N.out⟩,⟨by repeat (first|(with_reducible first|exact HB.out|apply a_g|apply a_e|apply a_h|refine a_f ?_ d_b.out|refine a_f ?_ d_Q.out|refine a_f ?_ j_W.out)|exact HB.out)⟩⟩
end Go.Proofs.Ytgglkfilkagblaa.Q
end
