/- Part 5 of 7 of what the row of TopoBytes stands on: contracts over the given program's functions, the plain law, the row; no condition beyond those that each theorem states. -/
import Derived.Test.YtcpfcehfgenljaaDoorXTopoBytes3
section
namespace Go.Proofs.YtcpfcehfgenljaaDoor.Q
open Go.RowKit Go.Proofs.YtcpfcehfgenljaaDoorW.PrintWords Go.Proofs.YtcpfcehfgenljaaDoorW.PrintLast Go.Proofs.YtcpfcehfgenljaaDoorW.PrintMore
set_option linter.unusedVariables false
set_option linter.unusedSimpArgs false
mutual
def a_h.j0 : Nat → List Int → Bool → Option ((List (S56)) × Int)
 | 0,_,_ => none
 | k + 1,x0,x19 => if x19 = true then (some (([] : List (S56)),7)) else (if 0 < (x0.length : Int) then (a_h.l0 k x0 (wrap64 (rd x0 0)) 0 ([] : List (S56))) else (none))
def a_h.l0 : Nat → List Int → Int → Int → List (S56) → Option ((List (S56)) × Int)
 | 0,_,_,_,_ => none
 | k + 1,x0,x24,x25,x416000 => if x25 < x24 then (if 0 ≤ (wrap64 (1 + (wrap64 (2 * x25)))) then (if (wrap64 (1 + (wrap64 (2 * x25)))) < (x0.length : Int) then (if 0 ≤ (wrap64 (2 + (wrap64 (2 * x25)))) then (if (wrap64 (2 + (wrap64 (2 * x25)))) < (x0.length : Int) then (if x416000.length < 8796093022208 then (a_h.l0 k x0 x24 (wrap64 (x25 + 1)) (x416000 ++ [(⟨wrap64 (rd x0 (wrap64 (1 + (wrap64 (2 * x25))))),wrap64 (rd x0 (wrap64 (2 + (wrap64 (2 * x25)))))⟩ : S56)])) else (none)) else (none)) else (none)) else (none)) else (none)) else ((a_n.f k x416000).bind fun t422 => (if t422 = true then (if 0 < (x0.length : Int) then (if (x0.length : Int) = (wrap64 (1 + (wrap64 (2 * (wrap64 (rd x0 0)))))) then (some (x416000,0)) else (some (([] : List (S56)),160))) else (none)) else (some (([] : List (S56)),160))))
end
def a_h.f (k : Nat) (l0 : List Int) : Option ((List (S56)) × Int):=if (l0.length : Int) < 1 then (a_h.j0 k l0 true) else (if 0 < (l0.length : Int) then (a_h.j0 k l0 (decide ((l0.length : Int) < (wrap64 (1 + (wrap64 (2 * (wrap64 (rd l0 0))))))))) else (none))
theorem a_h.b_D : ∀ k,(∀ y0 y1,LeO (a_h.j0 k y0 y1) (a_h.j0 (k + 1) y0 y1)) ∧ (∀ y0 y1 y2 y3,LeO (a_h.l0 k y0 y1 y2 y3) (a_h.l0 (k + 1) y0 y1 y2 y3))
 | 0 => ⟨fun _ _ r h => by simp [a_h.j0] at h,fun _ _ _ _ r h => by simp [a_h.l0] at h⟩
 | k + 1 => by
  obtain ⟨ih0,ih1⟩:=a_h.b_D k
  refine ⟨?_,?_⟩
  ·intro y0 y1
   unfold a_h.j0
   repeat' first
   | (with_reducible exact ih0 _ _)
   | (with_reducible exact ih1 _ _ _ _)
   | (with_reducible exact a_n.mono _ _)
   | (with_reducible exact LeO.refl _)
   | (with_reducible exact LeO.none _)
   | (with_reducible refine LeO.ite ?_ ?_)
   | (with_reducible refine LeO.bind ?_ (fun _ => ?_))
   | exact ih0 _ _
   | exact ih1 _ _ _ _
   | exact a_n.mono _ _
   | exact LeO.none _
   | refine LeO.ite ?_ ?_
   | refine LeO.bind ?_ (fun _ => ?_)
  ·intro y0 y1 y2 y3
   unfold a_h.l0
   repeat' first
   | (with_reducible exact ih0 _ _)
   | (with_reducible exact ih1 _ _ _ _)
   | (with_reducible exact a_n.mono _ _)
   | (with_reducible exact LeO.refl _)
   | (with_reducible exact LeO.none _)
   | (with_reducible refine LeO.ite ?_ ?_)
   | (with_reducible refine LeO.bind ?_ (fun _ => ?_))
   | exact ih0 _ _
   | exact ih1 _ _ _ _
   | exact a_n.mono _ _
   | exact LeO.none _
   | refine LeO.ite ?_ ?_
   | refine LeO.bind ?_ (fun _ => ?_)
theorem a_h.mono : ∀ a0 k,LeO (a_h.f k a0) (a_h.f (k + 1) a0):=by
 intro a0 k
 obtain ⟨ih0,ih1⟩:=a_h.b_D k
 unfold a_h.f
 repeat' first
  | (with_reducible exact ih0 _ _)
  | (with_reducible exact ih1 _ _ _ _)
  | (with_reducible exact a_n.mono _ _)
  | (with_reducible exact LeO.refl _)
  | (with_reducible exact LeO.none _)
  | (with_reducible refine LeO.ite ?_ ?_)
  | (with_reducible refine LeO.bind ?_ (fun _ => ?_))
  | exact ih0 _ _
  | exact ih1 _ _ _ _
  | exact a_n.mono _ _
  | exact LeO.none _
  | refine LeO.ite ?_ ?_
  | refine LeO.bind ?_ (fun _ => ?_)
def a_h.T7 : Bool × List (List Nat × List Nat):=(true,[([],[]),([0],[0]),([],[]),([],[]),([3],[3]),([4],[4]),([2,5],[2,5]),([6],[6]),([7],[7]),([],[]),([],[]),([10],[10]),([11],[11]),([9,12],[9,12]),([13],[13]),([14],[14]),([8,15],[8,15]),([16],[16]),([1,17],[1,17]),([0,1,2,3,4,5,6,7,8,9,10,11,12,13,14,15,16,17,18],[]),([19,18,18,0,1,2,3,4,5,6,7,8,9,10,11,12,13,14,15,16,17,18],[18,19])])
def a_h.B7 : List Nat:=[0,1,0,0,8,24,60,124,252,0,0,1024,3072,7680,15872,32256,65532,131068,262143,524287,1048575]
theorem a_h.tab7 : rtab .any (opsOf Tryd.f36 7) = a_h.T7:=by kernel_rfl
theorem a_h.h_Y : d_s a_h.T7.2 a_h.B7 = true:=by kernel_rfl
set_option maxHeartbeats 8000000 in
set_option maxRecDepth 100000 in
theorem a_h.calls (k : Nat) (A0 : Option Addr) (c0 : Nat) (l0 : List Int) (r1 : List (S56)) (r2 : Int) (w : World) (hr0 : Kd.C (Kd.int .u8) w A0 l0.length l0) (hc0 : l0.length ≤ c0) (h : a_h.f k l0 = some (r1,r2)) :
 Calls Tryd.prog 36 #[.slice A0 l0.length c0] w fun e w' => ∃ v0_ : Value,e = .returned (.tuple #[.agg #[v0_],.int .i64 r2]) ∧ Kd.R k56 56 w' w.heap.size (fun _ => True) v0_ r1 ∧ Below w.heap.size w w':=by
 have hu24:=Tryd.underlying24
 have hu56:=Tryd.underlying56
 have HR0:=a_a.mk hr0
 have HC0:=a_a.mk hc0
 clear hr0 hc0
 have HB:=a_a.mk (Below.refl w.heap.size w)
 have H : (if (l0.length : Int) < 1 then (a_h.j0 k l0 true) else (if 0 < (l0.length : Int) then (a_h.j0 k l0 (decide ((l0.length : Int) < (wrap64 (1 + (wrap64 (2 * (wrap64 (rd l0 0))))))))) else (none))) = some (r1,r2):=h
 clear h
 have HC2:=a_a.mk H
 clear H
 go_enter Tryd.func36,Tryd.ntmps36
 go_upto_region 1 with (first|((with_reducible refine a_B (N:=2) rfl ?_);(try (refine a_D (by rfl) ?_;dsimp only));refine a_A ?hg (N:=2) ?hd (cs:=#[.slice none 0 0]) (t:=24) ?hr ?_;(case hd => rfl);(case hg => rfl);(case hr => first|(go_simp;done)|(go_simp;rfl));intro d_x hg w3 hbox hb;have b_3:=a_a.mk (hbox);have n_q:=a_a.mk ((by rw [hg];exact (a_g (lup_ HB.out)) : w.heap.size ≤ d_x));have d_v:=a_a.mk ((by rw [hg];exact (a_g (lup_ HB.out)) : w.heap.size ≤ d_x));replace HB:=a_a.mk (a_i (lup_ HB.out) hb);clear hb hbox hg))
 (try simp only [Act.put,sa_,sb_,sc_])
 go_cut [19] (fun v19 wc => ∃ (kq : Nat) (x19_1 : Bool),v19 = .bool x19_1 ∧ a_a (a_h.j0 kq l0 x19_1 = some (r1,r2)) ∧ a_a (kq ≤ k) ∧ a_a (wc.heap[d_x]? = some (.cells #[(.slice none 0 0)] 24 (0,0))) ∧ a_a (Below w.heap.size w wc))
 case first =>
  have H:=HC2.out
  clear HC2
  by_cases c4 : (l0.length : Int) < 1
  ·rw [if_pos c4] at H
   have c4b0 : decide ((l0.length : Int) < 1) = true:=decide_eq_true c4
   have c4b1 : decide (l0.length < 1) = true:=decide_eq_true (by omega)
   clear c4
   (first|rw [c4b0]|(simp only [b_0,c_g];rw [c4b0])|skip)
   have H':=a_a.mk H
   clear H
   go_wp2
   go_meet
   case rel => exact ⟨_,(true),(by first|rfl|(simp;done)|(simp [*];done)),H',⟨by first|omega|exact Nat.le_refl _⟩,⟨by (with_reducible repeat (first|refine a_l ?_ _|refine a_o ?_|refine a_k ?_ _));exact b_3.out⟩,⟨by repeat (first|(with_reducible first|exact HB.out|apply a_c|apply a_b|apply a_d|refine a_e ?_ d_v.out)|exact HB.out)⟩⟩
  rw [if_neg c4] at H
  have c4b0 : decide ((l0.length : Int) < 1) = false:=decide_eq_false c4
  have c4b1 : decide (l0.length < 1) = false:=decide_eq_false (by omega)
  clear c4
  (first|rw [c4b0]|(simp only [b_0,c_g];rw [c4b0])|skip)
  by_cases c5 : 0 < (l0.length : Int)
  rotate_left
  ·rw [if_neg c5] at H
   exact absurd H (by simp)
  rw [if_pos c5] at H
  have c5b0 : decide (0 < (l0.length : Int)) = true:=decide_eq_true c5
  have c5b1 : decide (0 < l0.length) = true:=decide_eq_true (by omega)
  clear c5
  have H':=a_a.mk H
  clear H
  have p414 : 0 ≤ (0 : Int):=(by omega)
  have q414 : 0 < (l0.length : Int):=of_decide_eq_true (by first|(with_reducible assumption)|assumption)
  obtain ⟨ad414,e414,d_Q⟩:=Kd.c_W HR0.out 0 p414 q414
  cases e414
  have qi414 : (0 < l0.length) = True:=eq_true (by omega)
  (try rw [show ((0 : Int)).toNat = 0 from rfl] at d_Q)
  (try rw [Addr.add_zero'] at d_Q)
  replace d_Q:=(HB.out.cell (World.block_lt_of_cell? w _ d_Q)).trans d_Q
  replace p414:=eq_true p414
  replace q414:=eq_true q414
  go_wp2
  go_meet
  case rel => exact ⟨_,(decide ((l0.length : Int) < (wrap64 (1 + (wrap64 (2 * (wrap64 (rd l0 0)))))))),(by first|rfl|(simp;done)|(simp [*];done)),H',⟨by first|omega|exact Nat.le_refl _⟩,⟨by (with_reducible repeat (first|refine a_l ?_ _|refine a_o ?_|refine a_k ?_ _));exact b_3.out⟩,⟨by repeat (first|(with_reducible first|exact HB.out|apply a_c|apply a_b|apply a_d|refine a_e ?_ d_v.out)|exact HB.out)⟩⟩
 case rest =>
  clear HC2
  try clear p2
  try clear c3
  try clear c4
  try clear c4b0
  try clear c4b1
  try clear p4
  try clear q4
  try clear hx4
  try clear qi4
  try clear c5
  try clear c5b0
  try clear c5b1
  try clear d_Q
  try clear p414
  try clear q414
  obtain ⟨kq,x19_1,rfl,HA,HJ1,b_3,HB⟩:=hcut
  cases kq with
  | zero => exact absurd HA.out (by simp [a_h.j0])
  | succ kj1 =>
   have H:=HA.out
   clear HA
   simp only [a_h.j0] at H
   by_cases c6 : x19_1 = true
   ·subst c6
    have H1 : (some (([] : List (S56)),7)) = some (r1,r2):=by rw [if_pos rfl] at H;exact H
    clear H
    have H:=H1
    clear H1
    simp only [Option.some.injEq,Prod.mk.injEq] at H
    obtain ⟨rfl,rfl⟩:=H
    have c_8 : wc.cell? ⟨d_x,0,none⟩ = some (.slice none 0 0):=(a_m b_3.out 0).trans rfl
    have c_9:=a_j b_3.out 0
    go_wp2
    refine bodyPost_ret (b_T rfl _ _ d_x 24 #[.slice none 0 0] (0,0) _ rfl (by (with_reducible repeat (first|refine a_l ?_ _|refine a_o ?_|refine a_k ?_ _));refine a_R (cs:=#[.slice none 0 0]) ?_ 0 _ rfl;(with_reducible repeat (first|refine a_l ?_ _|refine a_o ?_|refine a_k ?_ _));exact b_3.out) Tryd.underlying24 rfl (by kernel_rfl)) rfl ?_
    exact ⟨_,by first|rfl|(simp [a_r,a_s] <;> rfl)|(simp [*, a_r,a_s] <;> rfl),by first|exact Kd.d_i _ _ _ _ _|exact Kd.e_C _ _ _ _ _|exact Kd.e_I _ _ _ _ _|exact Kd.e_D _ _ _ _ _|exact Kd.e_H _ _ _ _ _,by repeat (first|(with_reducible first|exact HB.out|apply a_c|apply a_b|apply a_d|refine a_e ?_ d_v.out)|exact HB.out)⟩
   replace c6:=Bool.eq_false_iff.mpr c6
   subst c6
   have H1 : (if 0 < (l0.length : Int) then (a_h.l0 kj1 l0 (wrap64 (rd l0 0)) 0 ([] : List (S56))) else (none)) = some (r1,r2):=by rw [if_neg (show ¬ (false = true) by decide)] at H;exact H
   clear H
   have H:=H1
   clear H1
   by_cases c8 : 0 < (l0.length : Int)
   rotate_left
   ·rw [if_neg c8] at H
    exact absurd H (by simp)
   rw [if_pos c8] at H
   have c8b0 : decide (0 < (l0.length : Int)) = true:=decide_eq_true c8
   have c8b1 : decide (0 < l0.length) = true:=decide_eq_true (by omega)
   clear c8
   have H':=a_a.mk H
   clear H
   go_wp2_with (first|((with_reducible refine a_B (N:=4) rfl ?_);(try (refine a_D (by rfl) ?_;dsimp only));refine a_A ?hg (N:=4) ?hd (cs:=#[.slice none 0 0]) (t:=24) ?hr ?_;(case hd => rfl);(case hg => rfl);(case hr => first|(go_simp;done)|(go_simp;rfl));intro d_8 hg w9 hbox hb;have c_m:=a_a.mk (hbox);have n_r:=a_a.mk ((by rw [hg];exact (a_g (by repeat (first|(with_reducible first|exact HB.out|apply a_c|apply a_b|apply a_d|refine a_e ?_ d_v.out)|exact HB.out))) : w.heap.size ≤ d_8));have e_9:=a_a.mk ((by rw [hg];exact (a_g (by repeat (first|(with_reducible first|exact HB.out|apply a_c|apply a_b|apply a_d|refine a_e ?_ d_v.out)|exact HB.out))) : w.heap.size ≤ d_8));have d_f:=a_a.mk ((by rw [hg];exact Nat.ne_of_lt (a_M (bup_ b_3.out)) : d_x ≠ d_8));have d_U:=a_a.mk ((by rw [hg];exact Nat.ne_of_gt (a_M (bup_ b_3.out)) : d_8 ≠ d_x));replace b_3:=a_a.mk (a_p (bup_ b_3.out) hb);replace HB:=a_a.mk (a_i (by repeat (first|(with_reducible first|exact HB.out|apply a_c|apply a_b|apply a_d|refine a_e ?_ d_v.out)|exact HB.out)) hb);clear hb hbox hg;have p416 : 0 ≤ (0 : Int):=(by omega);have q416 : 0 < (l0.length : Int):=of_decide_eq_true (by first|(with_reducible assumption)|assumption);obtain ⟨ad416,e416,e_d⟩:=Kd.c_W HR0.out 0 p416 q416;cases e416;have qi416 : (0 < l0.length) = True:=eq_true (by omega);(try rw [show ((0 : Int)).toNat = 0 from rfl] at e_d);(try rw [Addr.add_zero'] at e_d);replace e_d:=(HB.out.cell (World.block_lt_of_cell? w _ e_d)).trans e_d;replace p416:=eq_true p416;replace q416:=eq_true q416))
   go_loopg [25] kj1 (fun kq v25 w' => ∃ (x25_2 : Int) (x416000_2 : List (S56)) (u416000 : Value),v25 = .int .i64 x25_2 ∧ a_a (a_h.l0 kq l0 (wrap64 (rd l0 0)) x25_2 x416000_2 = some (r1,r2)) ∧ a_a (kq ≤ kj1) ∧ a_a (Kd.R k56 56 w' w.heap.size (fun _ => True) u416000 x416000_2) ∧ a_a (w'.heap[d_x]? = some (.cells #[(.slice none 0 0)] 24 (0,0))) ∧ a_a (w'.heap[d_8]? = some (.cells #[u416000] 24 (0,0))) ∧ a_a (Below w.heap.size w w'))
   case atStart => exact ⟨(0),(([] : List (S56))),(.slice none 0 0),(by first|rfl|(simp;done)|(simp [*];done)),H',⟨Nat.le_refl _⟩,⟨by first|exact Kd.d_i _ _ _ _ _|exact Kd.e_C _ _ _ _ _|exact Kd.e_I _ _ _ _ _|exact Kd.e_D _ _ _ _ _|exact Kd.e_H _ _ _ _ _⟩,⟨by (with_reducible repeat (first|refine a_l ?_ _|refine a_o ?_|refine a_k ?_ _));exact b_3.out⟩,⟨by (with_reducible repeat (first|refine a_l ?_ _|refine a_o ?_|refine a_k ?_ _));exact c_m.out⟩,⟨by repeat (first|(with_reducible first|exact HB.out|apply a_c|apply a_b|apply a_d|refine a_e ?_ d_v.out|refine a_e ?_ e_9.out)|exact HB.out)⟩⟩
   case round =>
    clear H'
    try clear p2
    try clear c3
    try clear c4
    try clear c4b0
    try clear c4b1
    try clear p4
    try clear q4
    try clear hx4
    try clear qi4
    try clear c5
    try clear c5b0
    try clear c5b1
    try clear c6
    try clear p6
    try clear c8
    try clear c8b0
    try clear c8b1
    try clear c_8
    try clear c_9
    try clear d_Q
    try clear e_d
    try clear p2
    try clear p4
    try clear p414
    try clear p416
    try clear q4
    try clear q414
    try clear q416
    obtain ⟨x25_2,x416000_2,u416000,rfl,HA,HK2,a_7,b_3,c_m,HB⟩:=hrel
    cases gk with
    | zero => exact absurd HA.out (by simp [a_h.l0])
    | succ k2 =>
     have H:=HA.out
     clear HA
     simp only [a_h.l0] at H
     by_cases c10 : x25_2 < (wrap64 (rd l0 0))
     rotate_left
     ·rw [if_neg c10] at H
      have c10b0 : decide (x25_2 < (wrap64 (rd l0 0))) = false:=decide_eq_false c10
      clear c10
      replace H:=Option.bind_eq_some_iff.mp H
      obtain ⟨t422,A220,H⟩:=H
      replace H : (if t422 = true then (if 0 < (l0.length : Int) then (if (l0.length : Int) = (wrap64 (1 + (wrap64 (2 * (wrap64 (rd l0 0)))))) then (some (x416000_2,0)) else (some (([] : List (S56)),160))) else (none)) else (some (([] : List (S56)),160))) = some (r1,r2):=H
      have A22:=a_a.mk A220
      clear A220
      by_cases c23 : t422 = true
      rotate_left
      ·replace c23:=Bool.eq_false_iff.mpr c23
       subst c23
       have H1 : (some (([] : List (S56)),160)) = some (r1,r2):=by rw [if_neg (show ¬ (false = true) by decide)] at H;exact H
       clear H
       have H:=H1
       clear H1
       simp only [Option.some.injEq,Prod.mk.injEq] at H
       obtain ⟨rfl,rfl⟩:=H
       have m_O:=d_U.out
       have m_U:=d_f.out
       have m_a : wr.cell? ⟨d_8,0,none⟩ = some (u416000):=(a_m c_m.out 0).trans rfl
       have m_z:=a_j c_m.out 0
       obtain ⟨Ao39,co39,eo39⟩:=Kd.a_V a_7.out
       subst eo39
       go_wp2_with (first|((with_reducible refine a_y (f:=16) rfl ?_);refine a_U (some 50) rfl rfl Tryd.func16 (by kernel_rfl) rfl #[.agg #[.slice Ao39 x416000_2.length co39]] rfl (by (try simp only [List.map_toArray,List.map_cons,List.map_nil]);first|done|rfl|(simp only [List.length_drop,List.length_take];rfl)) ?_;(with_reducible refine (a_n.calls k2 _ _ x416000_2 false _ ?side1 ?side2 A22.out).mono ?_);(case side1 => repeat (first|exact (Kd.a_v a_7.out).2.2|(with_reducible refine Kd.a_I ?_ _)|(with_reducible refine Kd.a_J ?_ _)|(with_reducible refine Kd.a_T ?_)));(case side2 => exact (Kd.a_v a_7.out).2.1);rintro e w40 ⟨rfl,hb⟩;refine ⟨_,rfl,?_⟩;replace a_7:=a_a.mk (Kd.a_C (rup_ a_7.out) hb);replace b_3:=a_a.mk (a_p (bup_ b_3.out) hb);replace c_m:=a_a.mk (a_p (bup_ c_m.out) hb);replace HB:=a_a.mk (a_i (by repeat (first|(with_reducible first|exact HB.out|apply a_c|apply a_b|apply a_d|refine a_e ?_ d_v.out|refine a_e ?_ e_9.out)|exact HB.out)) hb);(try clear hb);(try clear hb2);(try clear hk);(try clear hi);have e_P : w40.cell? ⟨d_x,0,none⟩ = some (.slice none 0 0):=(a_m b_3.out 0).trans rfl;have e_S:=a_j b_3.out 0))
       refine bodyPost_ret (b_T rfl _ _ d_x 24 #[.slice none 0 0] (0,0) _ rfl (by (with_reducible repeat (first|refine a_l ?_ _|refine a_o ?_|refine a_k ?_ _));refine a_R (cs:=#[.slice none 0 0]) ?_ 0 _ rfl;(with_reducible repeat (first|refine a_l ?_ _|refine a_o ?_|refine a_k ?_ _));exact b_3.out) Tryd.underlying24 rfl (by kernel_rfl)) rfl ?_
       exact ⟨_,by first|rfl|(simp [a_r,a_s] <;> rfl)|(simp [*, a_r,a_s] <;> rfl),by first|exact Kd.d_i _ _ _ _ _|exact Kd.e_C _ _ _ _ _|exact Kd.e_I _ _ _ _ _|exact Kd.e_D _ _ _ _ _|exact Kd.e_H _ _ _ _ _,by repeat (first|(with_reducible first|exact HB.out|apply a_c|apply a_b|apply a_d|refine a_e ?_ d_v.out|refine a_e ?_ e_9.out)|exact HB.out)⟩
      subst c23
      have H1 : (if 0 < (l0.length : Int) then (if (l0.length : Int) = (wrap64 (1 + (wrap64 (2 * (wrap64 (rd l0 0)))))) then (some (x416000_2,0)) else (some (([] : List (S56)),160))) else (none)) = some (r1,r2):=by rw [if_pos rfl] at H;exact H
      clear H
      have H:=H1
      clear H1
      by_cases c24 : 0 < (l0.length : Int)
      rotate_left
      ·rw [if_neg c24] at H
       exact absurd H (by simp)
      rw [if_pos c24] at H
      have c24b0 : decide (0 < (l0.length : Int)) = true:=decide_eq_true c24
      have c24b1 : decide (0 < l0.length) = true:=decide_eq_true (by omega)
      clear c24
      by_cases c25 : (l0.length : Int) = (wrap64 (1 + (wrap64 (2 * (wrap64 (rd l0 0))))))
      ·rw [if_pos c25] at H
       have c25b0 : ((l0.length : Int) == (wrap64 (1 + (wrap64 (2 * (wrap64 (rd l0 0))))))) = true:=beq_iff_eq.mpr c25
       have c25b1 : ((l0.length : Int) != (wrap64 (1 + (wrap64 (2 * (wrap64 (rd l0 0))))))) = false:=bne_eq_false_iff_eq.mpr c25
       clear c25
       simp only [Option.some.injEq,Prod.mk.injEq] at H
       obtain ⟨rfl,rfl⟩:=H
       have k_W:=d_U.out
       have k_Y:=d_f.out
       have e_O : wr.cell? ⟨d_8,0,none⟩ = some (u416000):=(a_m c_m.out 0).trans rfl
       have e_R:=a_j c_m.out 0
       obtain ⟨Ao28,co28,eo28⟩:=Kd.a_V a_7.out
       subst eo28
       go_wp2_with (first|((with_reducible refine a_y (f:=16) rfl ?_);refine a_U (some 50) rfl rfl Tryd.func16 (by kernel_rfl) rfl #[.agg #[.slice Ao28 x416000_2.length co28]] rfl (by (try simp only [List.map_toArray,List.map_cons,List.map_nil]);first|done|rfl|(simp only [List.length_drop,List.length_take];rfl)) ?_;(with_reducible refine (a_n.calls k2 _ _ x416000_2 true _ ?side1 ?side2 A22.out).mono ?_);(case side1 => repeat (first|exact (Kd.a_v a_7.out).2.2|(with_reducible refine Kd.a_I ?_ _)|(with_reducible refine Kd.a_J ?_ _)|(with_reducible refine Kd.a_T ?_)));(case side2 => exact (Kd.a_v a_7.out).2.1);rintro e w29 ⟨rfl,hb⟩;refine ⟨_,rfl,?_⟩;replace a_7:=a_a.mk (Kd.a_C (rup_ a_7.out) hb);replace b_3:=a_a.mk (a_p (bup_ b_3.out) hb);replace c_m:=a_a.mk (a_p (bup_ c_m.out) hb);replace HB:=a_a.mk (a_i (by repeat (first|(with_reducible first|exact HB.out|apply a_c|apply a_b|apply a_d|refine a_e ?_ d_v.out|refine a_e ?_ e_9.out)|exact HB.out)) hb);(try clear hb);(try clear hb2);(try clear hk);(try clear hi);have p423 : 0 ≤ (0 : Int):=(by omega);have q423 : 0 < (l0.length : Int):=of_decide_eq_true (by first|(with_reducible assumption)|assumption);obtain ⟨ad423,e423,c_Q⟩:=Kd.c_W HR0.out 0 p423 q423;obtain rfl : ad416 = ad423:=(by injection e423);have qi423 : (0 < l0.length) = True:=eq_true (by omega);(try rw [show ((0 : Int)).toNat = 0 from rfl] at c_Q);(try rw [Addr.add_zero'] at c_Q);replace c_Q:=(HB.out.cell (World.block_lt_of_cell? w _ c_Q)).trans c_Q;replace p423:=eq_true p423;replace q423:=eq_true q423;have i_p : w29.cell? ⟨d_8,0,none⟩ = some (.slice Ao28 x416000_2.length co28):=(a_m c_m.out 0).trans rfl;have i_G:=a_j c_m.out 0;have f_H : w29.cell? ⟨d_x,0,none⟩ = some (.slice none 0 0):=(a_m b_3.out 0).trans rfl;have f_L:=a_j b_3.out 0))
       refine bodyPost_ret (b_T rfl _ _ d_x 24 #[.slice Ao28 x416000_2.length co28] (0,0) _ rfl (by (with_reducible repeat (first|refine a_l ?_ _|refine a_o ?_|refine a_k ?_ _));refine a_R (cs:=#[.slice none 0 0]) ?_ 0 _ rfl;(with_reducible repeat (first|refine a_l ?_ _|refine a_o ?_|refine a_k ?_ _));exact b_3.out) Tryd.underlying24 rfl (by kernel_rfl)) rfl ?_
       exact ⟨_,by first|rfl|(simp [a_r,a_s] <;> rfl)|(simp [*, a_r,a_s] <;> rfl),by (with_reducible repeat (first|apply Kd.a_G|apply Kd.a_H|apply Kd.a_O));exact Kd.a_Q (Kd.b_a (p:=⟨d_x,0,none⟩) (Kd.a_N a_7.out b_3.out (by decide)) (fun _ hk => hk.2) (.slice Ao28 x416000_2.length co28)) (fun _ hk => trivial),by repeat (first|(with_reducible first|exact HB.out|apply a_c|apply a_b|apply a_d|refine a_e ?_ d_v.out|refine a_e ?_ e_9.out)|exact HB.out)⟩
      rw [if_neg c25] at H
      have c25b0 : ((l0.length : Int) == (wrap64 (1 + (wrap64 (2 * (wrap64 (rd l0 0))))))) = false:=beq_eq_false_iff_ne.mpr c25
      have c25b1 : ((l0.length : Int) != (wrap64 (1 + (wrap64 (2 * (wrap64 (rd l0 0))))))) = true:=bne_iff_ne.mpr c25
      simp only [Option.some.injEq,Prod.mk.injEq] at H
      obtain ⟨rfl,rfl⟩:=H
      have m_N:=d_U.out
      have m_T:=d_f.out
      have g_D : wr.cell? ⟨d_8,0,none⟩ = some (u416000):=(a_m c_m.out 0).trans rfl
      have g_P:=a_j c_m.out 0
      obtain ⟨Ao34,co34,eo34⟩:=Kd.a_V a_7.out
      subst eo34
      go_wp2_with (first|((with_reducible refine a_y (f:=16) rfl ?_);refine a_U (some 50) rfl rfl Tryd.func16 (by kernel_rfl) rfl #[.agg #[.slice Ao34 x416000_2.length co34]] rfl (by (try simp only [List.map_toArray,List.map_cons,List.map_nil]);first|done|rfl|(simp only [List.length_drop,List.length_take];rfl)) ?_;(with_reducible refine (a_n.calls k2 _ _ x416000_2 true _ ?side1 ?side2 A22.out).mono ?_);(case side1 => repeat (first|exact (Kd.a_v a_7.out).2.2|(with_reducible refine Kd.a_I ?_ _)|(with_reducible refine Kd.a_J ?_ _)|(with_reducible refine Kd.a_T ?_)));(case side2 => exact (Kd.a_v a_7.out).2.1);rintro e w35 ⟨rfl,hb⟩;refine ⟨_,rfl,?_⟩;replace a_7:=a_a.mk (Kd.a_C (rup_ a_7.out) hb);replace b_3:=a_a.mk (a_p (bup_ b_3.out) hb);replace c_m:=a_a.mk (a_p (bup_ c_m.out) hb);replace HB:=a_a.mk (a_i (by repeat (first|(with_reducible first|exact HB.out|apply a_c|apply a_b|apply a_d|refine a_e ?_ d_v.out|refine a_e ?_ e_9.out)|exact HB.out)) hb);(try clear hb);(try clear hb2);(try clear hk);(try clear hi);have p423 : 0 ≤ (0 : Int):=(by omega);have q423 : 0 < (l0.length : Int):=of_decide_eq_true (by first|(with_reducible assumption)|assumption);obtain ⟨ad423,e423,c_Q⟩:=Kd.c_W HR0.out 0 p423 q423;obtain rfl : ad416 = ad423:=(by injection e423);have qi423 : (0 < l0.length) = True:=eq_true (by omega);(try rw [show ((0 : Int)).toNat = 0 from rfl] at c_Q);(try rw [Addr.add_zero'] at c_Q);replace c_Q:=(HB.out.cell (World.block_lt_of_cell? w _ c_Q)).trans c_Q;replace p423:=eq_true p423;replace q423:=eq_true q423;have g_E : w35.cell? ⟨d_x,0,none⟩ = some (.slice none 0 0):=(a_m b_3.out 0).trans rfl;have g_Q:=a_j b_3.out 0))
      refine bodyPost_ret (b_T rfl _ _ d_x 24 #[.slice none 0 0] (0,0) _ rfl (by (with_reducible repeat (first|refine a_l ?_ _|refine a_o ?_|refine a_k ?_ _));refine a_R (cs:=#[.slice none 0 0]) ?_ 0 _ rfl;(with_reducible repeat (first|refine a_l ?_ _|refine a_o ?_|refine a_k ?_ _));exact b_3.out) Tryd.underlying24 rfl (by kernel_rfl)) rfl ?_
      exact ⟨_,by first|rfl|(simp [a_r,a_s] <;> rfl)|(simp [*, a_r,a_s] <;> rfl),by first|exact Kd.d_i _ _ _ _ _|exact Kd.e_C _ _ _ _ _|exact Kd.e_I _ _ _ _ _|exact Kd.e_D _ _ _ _ _|exact Kd.e_H _ _ _ _ _,by repeat (first|(with_reducible first|exact HB.out|apply a_c|apply a_b|apply a_d|refine a_e ?_ d_v.out|refine a_e ?_ e_9.out)|exact HB.out)⟩
     rw [if_pos c10] at H
     have c10b0 : decide (x25_2 < (wrap64 (rd l0 0))) = true:=decide_eq_true c10
     clear c10
     obtain ⟨ji11,hji11⟩ : ∃ j_ : Int,(wrap64 (1 + (wrap64 (2 * x25_2)))) = j_:=⟨_,rfl⟩
     replace H : (if 0 ≤ (ji11) then (if (ji11) < (l0.length : Int) then (if 0 ≤ (wrap64 (2 + (wrap64 (2 * x25_2)))) then (if (wrap64 (2 + (wrap64 (2 * x25_2)))) < (l0.length : Int) then (if x416000_2.length < 8796093022208 then (a_h.l0 k2 l0 (wrap64 (rd l0 0)) (wrap64 (x25_2 + 1)) (x416000_2 ++ [(⟨wrap64 (rd l0 (ji11)),wrap64 (rd l0 (wrap64 (2 + (wrap64 (2 * x25_2)))))⟩ : S56)])) else (none)) else (none)) else (none)) else (none)) else (none)) = some (r1,r2):=by first|(rw [hji11] at H;exact H)|(simp only [hji11] at H ⊢; exact H)
     have hji11w : (IntKind.i64.wrap (1 + (wrap64 (2 * x25_2)))) = ji11:=(b_0 _).trans hji11
     by_cases c12 : 0 ≤ (ji11)
     rotate_left
     ·rw [if_neg c12] at H
      exact absurd H (by simp)
     rw [if_pos c12] at H
     have c12b0 : decide (0 ≤ (ji11)) = true:=decide_eq_true c12
     clear c12
     by_cases c13 : (ji11) < (l0.length : Int)
     rotate_left
     ·rw [if_neg c13] at H
      exact absurd H (by simp)
     rw [if_pos c13] at H
     have c13b0 : decide ((ji11) < (l0.length : Int)) = true:=decide_eq_true c13
     clear c13
     obtain ⟨ji14,hji14⟩ : ∃ j_ : Int,(wrap64 (2 + (wrap64 (2 * x25_2)))) = j_:=⟨_,rfl⟩
     replace H : (if 0 ≤ (ji14) then (if (ji14) < (l0.length : Int) then (if x416000_2.length < 8796093022208 then (a_h.l0 k2 l0 (wrap64 (rd l0 0)) (wrap64 (x25_2 + 1)) (x416000_2 ++ [(⟨wrap64 (rd l0 (ji11)),wrap64 (rd l0 (ji14))⟩ : S56)])) else (none)) else (none)) else (none)) = some (r1,r2):=by first|(rw [hji14] at H;exact H)|(simp only [hji14] at H ⊢; exact H)
     have hji14w : (IntKind.i64.wrap (2 + (wrap64 (2 * x25_2)))) = ji14:=(b_0 _).trans hji14
     by_cases c15 : 0 ≤ (ji14)
     rotate_left
     ·rw [if_neg c15] at H
      exact absurd H (by simp)
     rw [if_pos c15] at H
     have c15b0 : decide (0 ≤ (ji14)) = true:=decide_eq_true c15
     clear c15
     by_cases c16 : (ji14) < (l0.length : Int)
     rotate_left
     ·rw [if_neg c16] at H
      exact absurd H (by simp)
     rw [if_pos c16] at H
     have c16b0 : decide ((ji14) < (l0.length : Int)) = true:=decide_eq_true c16
     clear c16
     by_cases c17 : x416000_2.length < 8796093022208
     rotate_left
     ·rw [if_neg c17] at H
      exact absurd H (by simp)
     rw [if_pos c17] at H
     have LMc17:=a_a.mk c17
     clear c17
     obtain ⟨y419,hy419⟩ : ∃ y_ : List (S56),y_ = (x416000_2 ++ [(⟨wrap64 (rd l0 (ji11)),wrap64 (rd l0 (ji14))⟩ : S56)]):=⟨_,rfl⟩
     replace H : (a_h.l0 k2 l0 (wrap64 (rd l0 0)) (wrap64 (x25_2 + 1)) y419) = some (r1,r2):=by first|(rw [hy419];with_reducible exact H)|(have H2_:=(Option.bind_some _ _).symm.trans H;rw [hy419];with_reducible exact H2_)|(have H2_:=(Option.bind_some _ _).symm.trans H;with_reducible exact H2_)|with_reducible exact H|(rw [hy419];exact H)|exact H
     have Ny419:=a_a.mk hy419
     clear hy419
     have H':=a_a.mk H
     clear H
     try go_wp2
     replace a_7:=a_a.mk (Kd.a_O a_7.out)
     replace b_3:=a_a.mk (a_o b_3.out)
     replace c_m:=a_a.mk (a_o c_m.out)
     replace HB:=a_a.mk (a_d HB.out)
     have p417 : 0 ≤ ((ji11) : Int):=of_decide_eq_true (by first|(with_reducible assumption)|assumption)
     have q417 : (ji11) < (l0.length : Int):=of_decide_eq_true (by first|(with_reducible assumption)|assumption)
     obtain ⟨ad417,e417,e_W⟩:=Kd.c_W HR0.out (ji11) p417 q417
     have d_n:=e_W
     obtain rfl : ad416 = ad417:=(by injection e417)
     replace e_W:=(HB.out.cell (World.block_lt_of_cell? w _ e_W)).trans e_W
     replace p417:=eq_true p417
     replace q417:=eq_true q417
     have p418 : 0 ≤ ((ji14) : Int):=of_decide_eq_true (by first|(with_reducible assumption)|assumption)
     have q418 : (ji14) < (l0.length : Int):=of_decide_eq_true (by first|(with_reducible assumption)|assumption)
     obtain ⟨ad418,e418,e_X⟩:=Kd.c_W HR0.out (ji14) p418 q418
     have d_o:=e_X
     obtain rfl : ad416 = ad418:=(by injection e418)
     replace e_X:=(HB.out.cell (World.block_lt_of_cell? w _ e_X)).trans e_X
     replace p418:=eq_true p418
     replace q418:=eq_true q418
     refine h_l (n:=21) (S:=fun w' => w'.cell? ⟨d_8,0,none⟩ = some (u416000) ∧ w'.cell? (ad416.add ((ji11)).toNat) = some (.int .u8 (rd l0 (ji11))) ∧ w'.cell? (ad416.add ((ji14)).toNat) = some (.int .u8 (rd l0 (ji14)))) (ds:=[20]) #[F_,F_,F_,F_,F_,F_,F_,F_,F_,F_,F_,F_,F_,F_,F_,F_,F_,F_,F_,F_,F_] (by kernel_rfl) rfl rfl ⟨(a_m c_m.out 0).trans rfl,((HB.out.cell (World.block_lt_of_cell? w _ d_n)).trans d_n),((HB.out.cell (World.block_lt_of_cell? w _ d_o)).trans d_o)⟩ (fun hHeld => ?_);refine d_2 a_h.tab7 a_h.h_Y (fun HT_ HW_ => ?_)
     generalize wr.drew = w18 at a_7 b_3 c_m HB e_W e_X hHeld ⊢
     refine pt_ 0 (some 28) #[T_,F_,F_,F_,F_,F_,F_,F_,F_,F_,F_,F_,F_,F_,F_,F_,F_,F_,F_,F_,F_] HT_ ?_
     refine pt_ 2 (some 30) #[T_,F_,T_,F_,F_,F_,F_,F_,F_,F_,F_,F_,F_,F_,F_,F_,F_,F_,F_,F_,F_] HT_ ?_
     refine pt_ 3 (some 31) #[T_,F_,T_,T_,F_,F_,F_,F_,F_,F_,F_,F_,F_,F_,F_,F_,F_,F_,F_,F_,F_] HT_ ?_
     refine pt_ 4 (some 32) #[T_,F_,T_,T_,T_,F_,F_,F_,F_,F_,F_,F_,F_,F_,F_,F_,F_,F_,F_,F_,F_] HT_ ?_
     refine pt_ 5 (some 33) #[T_,F_,T_,T_,T_,T_,F_,F_,F_,F_,F_,F_,F_,F_,F_,F_,F_,F_,F_,F_,F_] HT_ ?_
     refine pt_ 6 (some 34) #[T_,F_,T_,T_,T_,T_,T_,F_,F_,F_,F_,F_,F_,F_,F_,F_,F_,F_,F_,F_,F_] HT_ ?_
     refine pt_ 9 (some 37) #[T_,F_,T_,T_,T_,T_,T_,F_,F_,T_,F_,F_,F_,F_,F_,F_,F_,F_,F_,F_,F_] HT_ ?_
     refine pt_ 10 (some 38) #[T_,F_,T_,T_,T_,T_,T_,F_,F_,T_,T_,F_,F_,F_,F_,F_,F_,F_,F_,F_,F_] HT_ ?_
     refine pt_ 11 (some 39) #[T_,F_,T_,T_,T_,T_,T_,F_,F_,T_,T_,T_,F_,F_,F_,F_,F_,F_,F_,F_,F_] HT_ ?_
     refine pt_ 12 (some 40) #[T_,F_,T_,T_,T_,T_,T_,F_,F_,T_,T_,T_,T_,F_,F_,F_,F_,F_,F_,F_,F_] HT_ ?_
     refine pt_ 13 (some 41) #[T_,F_,T_,T_,T_,T_,T_,F_,F_,T_,T_,T_,T_,T_,F_,F_,F_,F_,F_,F_,F_] HT_ ?_
     refine d_0 (i:=1) (N:=some 29) (v:=?_) (a':=?_) #[T_,T_,T_,T_,T_,T_,T_,F_,F_,T_,T_,T_,T_,T_,F_,F_,F_,F_,F_,F_,F_] rfl rfl (c_r HT_.out HW_.out (by kernel_rfl)) (fun _ _ _ h => h) (Or.inl ⟨by rfl,?_⟩) hHeld ?_ ?_
     rotate_left
     ·rintro w' ⟨s0,s1,s2⟩
      go_simp
      with_reducible rfl
     rotate_left
     ·simp only [Act.put,sa_,sb_,sc_,b_0,c_g]
      rfl
     refine d_0 (i:=7) (N:=some 35) (v:=?_) (a':=?_) #[T_,T_,T_,T_,T_,T_,T_,T_,F_,T_,T_,T_,T_,T_,F_,F_,F_,F_,F_,F_,F_] rfl rfl (c_r HT_.out HW_.out (by kernel_rfl)) (fun _ _ _ h => h) (Or.inl ⟨by rfl,?_⟩) hHeld ?_ ?_
     rotate_left
     ·rintro w' ⟨s0,s1,s2⟩
      go_simp
      with_reducible rfl
     rotate_left
     ·simp only [Act.put,sa_,sb_,sc_,b_0,c_g]
      rfl
     refine pt_ 8 (some 36) #[T_,T_,T_,T_,T_,T_,T_,T_,T_,T_,T_,T_,T_,T_,F_,F_,F_,F_,F_,F_,F_] HT_ ?_
     refine d_0 (i:=14) (N:=some 42) (v:=?_) (a':=?_) #[T_,T_,T_,T_,T_,T_,T_,T_,T_,T_,T_,T_,T_,T_,T_,F_,F_,F_,F_,F_,F_] rfl rfl (c_r HT_.out HW_.out (by kernel_rfl)) (fun _ _ _ h => h) (Or.inl ⟨by rfl,?_⟩) hHeld ?_ ?_
     rotate_left
     ·rintro w' ⟨s0,s1,s2⟩
      go_simp
      with_reducible rfl
     rotate_left
     ·simp only [Act.put,sa_,sb_,sc_,b_0,c_g]
      rfl
     refine pt_ 15 (some 43) #[T_,T_,T_,T_,T_,T_,T_,T_,T_,T_,T_,T_,T_,T_,T_,T_,F_,F_,F_,F_,F_] HT_ ?_
     refine pt_ 16 (some 44) #[T_,T_,T_,T_,T_,T_,T_,T_,T_,T_,T_,T_,T_,T_,T_,T_,T_,F_,F_,F_,F_] HT_ ?_
     refine one_ (i:=17) (N:=some 45) #[T_,T_,T_,T_,T_,T_,T_,T_,T_,T_,T_,T_,T_,T_,T_,T_,T_,T_,F_,F_,F_] rfl rfl (c_X HT_.out (by kernel_rfl)) (by decide) (fun K hK => ?_)
     refine j_c (w1:=?_) (v:=?_) (by rfl) rfl ?_ ?_
     rotate_left 2
     ·go_simp
      constructor
      ·rfl
      rfl
     refine hK.out _ _ ⟨(a_m (a_k c_m.out _) 0).trans rfl,(World.cell?_alloc_lt _ _ _ (World.block_lt_of_cell? _ _ (((HB.out.cell (World.block_lt_of_cell? w _ d_n)).trans d_n)))).trans (((HB.out.cell (World.block_lt_of_cell? w _ d_n)).trans d_n)),(World.cell?_alloc_lt _ _ _ (World.block_lt_of_cell? _ _ (((HB.out.cell (World.block_lt_of_cell? w _ d_o)).trans d_o)))).trans (((HB.out.cell (World.block_lt_of_cell? w _ d_o)).trans d_o))⟩ (fun hHeld => ?_)
     clear hK K
     refine e_f (a':=?_) ?_ ?_
     rotate_left
     ·show Act.put _ (some 45) _ = _
      simp only [Act.put,sa_,sb_,sc_,b_0,c_g]
      rfl
     refine one_ (i:=18) (N:=some 46) #[T_,T_,T_,T_,T_,T_,T_,T_,T_,T_,T_,T_,T_,T_,T_,T_,T_,T_,T_,F_,F_] rfl rfl (c_X HT_.out (by kernel_rfl)) (by decide) (fun K hK => ?_)
     refine Kd.c_1 k56 (w0:=w) w.heap.size (by rfl) (.tmp 29) (.tmp 45) 22 56 (.agg #[(.int .i64 0),(.int .i64 0)]) 16 rfl Tryd.underlying22 g_b rfl (by decide) (by omega) u416000 x416000_2 (⟨wrap64 (rd l0 (ji11)),wrap64 (rd l0 (ji14))⟩ : S56) [.int .i64 (wrap64 (rd l0 (ji11))),.int .i64 (wrap64 (rd l0 (ji14)))] (fun _ => True) (fun _ => False) rfl rfl ?aP (fun _ hk => hk.elim) ?aF ?aO ?aB ?aS ?aL ?_
     (case aP => exact g_0 _ _ _ (⟨wrap64 (rd l0 (ji11)),wrap64 (rd l0 (ji14))⟩ : S56))
     (case aB => exact (by repeat (first|(with_reducible first|exact HB.out|apply a_c|apply a_b|apply a_d|refine a_e ?_ d_v.out|refine a_e ?_ e_9.out)|exact HB.out)))
     (case aF => exact (fun _ _ => trivial))
     (case aO => exact (rup_ a_7.out))
     (case aS => exact (a_g (by repeat (first|(with_reducible first|exact HB.out|apply a_c|apply a_b|apply a_d|refine a_e ?_ d_v.out|refine a_e ?_ e_9.out)|exact HB.out))))
     (case aL => have:=LMc17.out;omega)
     intro v420 w19 ho hb hg hat
     rw [← Ny419.out] at ho
     have k_H:=a_a.mk (ho)
     replace b_3:=a_a.mk (b_x (g:=d_x) (o:=.cells #[.slice none 0 0] 24 (0,0)) (bup_ b_3.out) hg (Kd.R_ne a_7.out b_3.out (by decide)))
     replace c_m:=a_a.mk (b_x (g:=d_8) (o:=.cells #[u416000] 24 (0,0)) (bup_ c_m.out) hg (Kd.R_ne a_7.out c_m.out (by decide)))
     replace HB:=a_a.mk (hb)
     clear a_7 ho hb hg hat
     obtain ⟨Ao20,co20,eo20⟩:=Kd.a_V k_H.out
     (first|subst eo20|(injection eo20 with f1_ f2_ f3_;have f4_:=f1_.symm;have f5_:=f3_.symm;clear f1_ f2_ f3_;subst f4_;subst f5_))
     refine hK.out _ _ ⟨(a_m c_m.out 0).trans rfl,((HB.out.cell (World.block_lt_of_cell? w _ d_n)).trans d_n),((HB.out.cell (World.block_lt_of_cell? w _ d_o)).trans d_o)⟩ (fun hHeld => ?_)
     clear hK K
     refine e_f (a':=?_) ?_ ?_
     rotate_left
     ·show Act.put _ (some 46) _ = _
      simp only [Act.put,sa_,sb_,sc_,b_0,c_g]
      rfl
     refine pt_ 19 (some 47) #[T_,T_,T_,T_,T_,T_,T_,T_,T_,T_,T_,T_,T_,T_,T_,T_,T_,T_,T_,T_,F_] HT_ ?_
     refine k_k (i:=20) (N:=none) #[T_,T_,T_,T_,T_,T_,T_,T_,T_,T_,T_,T_,T_,T_,T_,T_,T_,T_,T_,T_,T_] rfl rfl (c_X HT_.out (by kernel_rfl)) (by decide) (fun K hK => ?_)
     have hs21 : w19.cell? ⟨d_8,0,none⟩ = some (u416000):=(a_m c_m.out 0).trans rfl
     have hfs21:=a_j c_m.out 0
     have hns21_0:=d_f.out
     have hms21_0:=d_U.out
     refine i_5 (w1:=?_) (by rfl) rfl ?_ ?_
     rotate_left
     ·go_simp
      rfl
     refine hK.out _ _ ?_
     clear hK K
     refine j_k (f_B HT_.out (by kernel_rfl)) ?_
     try go_wp2
     go_roundg k2
     case measure => have:=HJ1.out;have:=HK2.out;omega
     case rel => exact ⟨(wrap64 (x25_2 + 1)),(y419),(.slice Ao20 y419.length co20),(by first|rfl|(simp;done)|(simp [*];done)),H',⟨by have:=HJ1.out;have:=HK2.out;omega⟩,⟨by (with_reducible repeat (first|apply Kd.a_G|apply Kd.a_H|apply Kd.a_O));exact Kd.a_Q (Kd.b_a (p:=⟨d_8,0,none⟩) (Kd.a_N k_H.out c_m.out (by decide)) (fun _ hk => hk.2) (.slice Ao20 y419.length co20)) (fun _ hk => trivial)⟩,⟨by (with_reducible repeat (first|refine a_l ?_ _|refine a_o ?_|refine a_k ?_ _));refine a_9 ?_ d_f.out _;(with_reducible repeat (first|refine a_l ?_ _|refine a_o ?_|refine a_k ?_ _));exact b_3.out⟩,⟨by (with_reducible repeat (first|refine a_l ?_ _|refine a_o ?_|refine a_k ?_ _));refine a_R (cs:=#[u416000]) ?_ 0 _ rfl;(with_reducible repeat (first|refine a_l ?_ _|refine a_o ?_|refine a_k ?_ _));exact c_m.out⟩,⟨by repeat (first|(with_reducible first|exact HB.out|apply a_c|apply a_b|apply a_d|refine a_e ?_ d_v.out|refine a_e ?_ e_9.out)|exact HB.out)⟩⟩
end Go.Proofs.YtcpfcehfgenljaaDoor.Q
end
