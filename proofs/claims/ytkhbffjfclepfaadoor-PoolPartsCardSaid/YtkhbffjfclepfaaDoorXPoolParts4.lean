/- Part 5 of 6 of what the row of PoolParts stands on: contracts over the given program's functions, the plain law, the row; no condition beyond those that each theorem states. -/
import Derived.Test.YtkhbffjfclepfaaDoorXPoolParts3
section
namespace Go.Proofs.YtkhbffjfclepfaaDoor.Q
open Go.RowKit Go.Proofs.YtkhbffjfclepfaaDoorW.PrintWords Go.Proofs.YtkhbffjfclepfaaDoorW.PrintLast Go.Proofs.YtkhbffjfclepfaaDoorW.PrintMore
set_option linter.unusedVariables false
set_option linter.unusedSimpArgs false
mutual
def a_j.l0 : Nat → Int → Int → Int → List Int → Option (Bool)
 | 0,_,_,_,_ => none
 | k + 1,x3,x12,x13,x167000 => if x13 < x12 then ((b_d.f k x167000 x13).bind fun t170 => ((b_g.f t170).bind fun t171 => (a_j.l1 k x3 x13 t170 x12 x13 t171 (t171.length : Int) 0 x167000))) else ((a_A.f k x167000).bind fun t167 => ((a_U.f t167).bind fun t168 => (if x3 = t168 then ((a_n.f k x167000).bind fun t169 => (some (t169 == 0))) else (some false))))
def a_j.l1 : Nat → Int → Int → Int → Int → Int → List Int → Int → Int → List Int → Option (Bool)
 | 0,_,_,_,_,_,_,_,_,_ => none
 | k + 1,x3,x4,x5,x12,x13,x20,x21,x22,x167000 => if x22 < x21 then (if 0 ≤ x22 then (if x22 < (x20.length : Int) then ((a_3.f k x167000 (rd x20 x22)).bind fun bt175 => (if bt175.2 = true then (if bt175.1 = x4 then (a_j.l1 k x3 x4 x5 x12 x13 x20 x21 (wrap64 (x22 + 1)) x167000) else (some false)) else (some false))) else (none)) else (none)) else (if x5 = 0 then (some false) else ((a_U.f x5).bind fun t177 => (a_j.l0 k (wrap64 (x3 + t177)) x12 (wrap64 (x13 + 1)) x167000)))
end
def a_j.f (k : Nat) (l0_0 : List Int) : Option (Bool):=a_j.l0 k 0 (l0_0.length : Int) 0 l0_0
theorem a_j.b_4 : ∀ k,(∀ y0 y1 y2 y3,LeO (a_j.l0 k y0 y1 y2 y3) (a_j.l0 (k + 1) y0 y1 y2 y3)) ∧ (∀ y0 y1 y2 y3 y4 y5 y6 y7 y8,LeO (a_j.l1 k y0 y1 y2 y3 y4 y5 y6 y7 y8) (a_j.l1 (k + 1) y0 y1 y2 y3 y4 y5 y6 y7 y8))
 | 0 => ⟨fun _ _ _ _ r h => by simp [a_j.l0] at h,fun _ _ _ _ _ _ _ _ _ r h => by simp [a_j.l1] at h⟩
 | k + 1 => by
  obtain ⟨ih0,ih1⟩:=a_j.b_4 k
  refine ⟨?_,?_⟩
  ·intro y0 y1 y2 y3
   unfold a_j.l0
   repeat' first
   | (with_reducible exact ih0 _ _ _ _)
   | (with_reducible exact ih1 _ _ _ _ _ _ _ _ _)
   | (with_reducible exact a_n.mono _ _)
   | (with_reducible exact a_A.mono _ _)
   | (with_reducible exact a_3.mono _ _ _)
   | (with_reducible exact b_d.mono _ _ _)
   | (with_reducible exact LeO.refl _)
   | (with_reducible exact LeO.none _)
   | (with_reducible refine LeO.ite ?_ ?_)
   | (with_reducible refine LeO.bind ?_ (fun _ => ?_))
   | exact ih0 _ _ _ _
   | exact ih1 _ _ _ _ _ _ _ _ _
   | exact a_n.mono _ _
   | exact a_A.mono _ _
   | exact a_3.mono _ _ _
   | exact b_d.mono _ _ _
   | exact LeO.none _
   | refine LeO.ite ?_ ?_
   | refine LeO.bind ?_ (fun _ => ?_)
  ·intro y0 y1 y2 y3 y4 y5 y6 y7 y8
   unfold a_j.l1
   repeat' first
   | (with_reducible exact ih0 _ _ _ _)
   | (with_reducible exact ih1 _ _ _ _ _ _ _ _ _)
   | (with_reducible exact a_n.mono _ _)
   | (with_reducible exact a_A.mono _ _)
   | (with_reducible exact a_3.mono _ _ _)
   | (with_reducible exact b_d.mono _ _ _)
   | (with_reducible exact LeO.refl _)
   | (with_reducible exact LeO.none _)
   | (with_reducible refine LeO.ite ?_ ?_)
   | (with_reducible refine LeO.bind ?_ (fun _ => ?_))
   | exact ih0 _ _ _ _
   | exact ih1 _ _ _ _ _ _ _ _ _
   | exact a_n.mono _ _
   | exact a_A.mono _ _
   | exact a_3.mono _ _ _
   | exact b_d.mono _ _ _
   | exact LeO.none _
   | refine LeO.ite ?_ ?_
   | refine LeO.bind ?_ (fun _ => ?_)
theorem a_j.mono : ∀ a0 k,LeO (a_j.f k a0) (a_j.f (k + 1) a0):=by
 intro a0 k
 obtain ⟨ih0,ih1⟩:=a_j.b_4 k
 unfold a_j.f
 repeat' first
  | (with_reducible exact ih0 _ _ _ _)
  | (with_reducible exact ih1 _ _ _ _ _ _ _ _ _)
  | (with_reducible exact a_n.mono _ _)
  | (with_reducible exact a_A.mono _ _)
  | (with_reducible exact a_3.mono _ _ _)
  | (with_reducible exact b_d.mono _ _ _)
  | (with_reducible exact LeO.refl _)
  | (with_reducible exact LeO.none _)
  | (with_reducible refine LeO.ite ?_ ?_)
  | (with_reducible refine LeO.bind ?_ (fun _ => ?_))
  | exact ih0 _ _ _ _
  | exact ih1 _ _ _ _ _ _ _ _ _
  | exact a_n.mono _ _
  | exact a_A.mono _ _
  | exact a_3.mono _ _ _
  | exact b_d.mono _ _ _
  | exact LeO.none _
  | refine LeO.ite ?_ ?_
  | refine LeO.bind ?_ (fun _ => ?_)
set_option maxHeartbeats 8000000 in
set_option maxRecDepth 100000 in
theorem a_j.calls (k : Nat) (A0_0 : Option Addr) (c0_0 : Nat) (l0_0 : List Int) (r : Bool) (w : World) (hr0_0 : Kd.C (Kd.int .u32) w A0_0 l0_0.length l0_0) (hc0_0 : l0_0.length ≤ c0_0) (ht : b_Q w) (h : a_j.f k l0_0 = some r) :
 Calls Tryd.prog 8 #[.agg #[.slice A0_0 l0_0.length c0_0]] w fun e w' => e = .returned (.bool r) ∧ Below w.heap.size w w':=by
 have hu26:=Tryd.underlying26
 have HT_:=a_a.mk ht
 clear ht
 have b_G:=a_a.mk hr0_0
 have b_U:=a_a.mk hc0_0
 clear hr0_0 hc0_0
 have HB:=a_a.mk (Below.refl w.heap.size w)
 have H : (a_j.l0 k 0 (l0_0.length : Int) 0 l0_0) = some r:=h
 clear h
 have H':=a_a.mk H
 clear H
 go_enter Tryd.func8,Tryd.ntmps8
 go_wp2_with (first|((with_reducible refine a_u (N:=1) rfl ?_);refine a_t ?hg (N:=1) ?hd (cs:=#[.slice A0_0 l0_0.length c0_0]) (t:=26) ?hr ?_;(case hd => rfl);(case hg => rfl);(case hr => first|(go_simp;done)|(go_simp;rfl));intro c_9 hg w2 hbox hb;have b_p:=a_a.mk (hbox);have j_7:=a_a.mk ((by rw [hg];exact (a_r (lup_ HB.out)) : w.heap.size ≤ c_9));have c_f:=a_a.mk ((by rw [hg];exact (a_r (lup_ HB.out)) : w.heap.size ≤ c_9));replace HB:=a_a.mk (a_i (lup_ HB.out) hb);clear hb hbox hg;have g_a : w2.cell? ⟨c_9,0,none⟩ = some (.slice A0_0 l0_0.length c0_0):=(a_h b_p.out 0).trans rfl;have g_b:=a_f b_p.out 0))
 go_loopg [3,13] k (fun kq v3 v13 w' => ∃ (x3_1 : Int) (x13_1 : Int),v3 = .int .i64 x3_1 ∧ v13 = .int .i64 x13_1 ∧ a_a (a_j.l0 kq x3_1 (l0_0.length : Int) x13_1 l0_0 = some r) ∧ a_a (kq ≤ k) ∧ a_a (w'.heap[c_9]? = some (.cells #[(.slice A0_0 l0_0.length c0_0)] 26 (0,0))) ∧ a_a (Below w.heap.size w w'))
 case atStart => exact ⟨(0),(0),(by first|rfl|(simp;done)|(simp [*];done)),(by first|rfl|(simp;done)|(simp [*];done)),H',⟨Nat.le_refl _⟩,⟨by (with_reducible repeat (first|refine a_o ?_ _|refine a_m ?_|refine a_p ?_ _));exact b_p.out⟩,⟨by repeat (first|(with_reducible first|exact HB.out|apply a_e|apply a_c|apply a_g|refine a_d ?_ c_f.out)|exact HB.out)⟩⟩
 case round =>
  clear H'
  try clear p2
  try clear g_a
  try clear g_b
  obtain ⟨x3_1,x13_1,rfl,rfl,HA,HK1,b_p,HB⟩:=hrel
  cases gk with
  | zero => exact absurd HA.out (by simp [a_j.l0])
  | succ k1 =>
   have H:=HA.out
   clear HA
   simp only [a_j.l0] at H
   by_cases c4 : x13_1 < (l0_0.length : Int)
   rotate_left
   ·rw [if_neg c4] at H
    have c4b0 : decide (x13_1 < (l0_0.length : Int)) = false:=decide_eq_false c4
    clear c4
    replace H:=Option.bind_eq_some_iff.mp H
    obtain ⟨t167,A250,H⟩:=H
    replace H : ((a_U.f t167).bind fun t168 => (if x3_1 = t168 then ((a_n.f k1 l0_0).bind fun t169 => (some (t169 == 0))) else (some false))) = some r:=H
    have A25:=a_a.mk A250
    clear A250
    replace H:=Option.bind_eq_some_iff.mp H
    obtain ⟨t168,A260,H⟩:=H
    replace H : (if x3_1 = t168 then ((a_n.f k1 l0_0).bind fun t169 => (some (t169 == 0))) else (some false)) = some r:=H
    have A26:=a_a.mk A260
    clear A260
    by_cases c27 : x3_1 = t168
    rotate_left
    ·rw [if_neg c27] at H
     have c27b0 : (x3_1 == t168) = false:=beq_eq_false_iff_ne.mpr c27
     have c27b1 : (x3_1 != t168) = true:=bne_iff_ne.mpr c27
     obtain rfl:=Option.some.inj H
     have i_C : wr.cell? ⟨c_9,0,none⟩ = some (.slice A0_0 l0_0.length c0_0):=(a_h b_p.out 0).trans rfl
     have i_D:=a_f b_p.out 0
     go_wp2_with (first|((with_reducible refine a_x (f:=6) rfl ?_);refine a_Y (some 49) rfl rfl Tryd.func6 (by kernel_rfl) rfl #[.agg #[.slice A0_0 l0_0.length c0_0]] rfl (by (try simp only [List.map_toArray,List.map_cons,List.map_nil]);first|done|rfl|(simp only [List.length_drop,List.length_take];rfl)) ?_;(with_reducible refine (a_A.calls k1 _ _ l0_0 t167 _ ?side1 ?side2 A25.out).mono ?_);(case side1 => repeat (first|exact (Kd.a_K b_G.out HB.out)|(with_reducible refine Kd.a_4 ?_ _)|(with_reducible refine Kd.a_6 ?_ _)|(with_reducible refine Kd.b_a ?_)));(case side2 => exact b_U.out);rintro e w34 ⟨rfl,hb⟩;refine ⟨_,rfl,?_⟩;replace b_p:=a_a.mk (a_b (bup_ b_p.out) hb);replace HB:=a_a.mk (a_i (by repeat (first|(with_reducible first|exact HB.out|apply a_e|apply a_c|apply a_g|refine a_d ?_ c_f.out)|exact HB.out)) hb);(try clear hb);(try clear hb2);(try clear hk);(try clear hi))|((with_reducible refine a_x (f:=17) rfl ?_);refine a_Y (some 50) rfl rfl Tryd.func17 (by kernel_rfl) rfl #[.int .u32 t167] rfl (by (try simp only [List.map_toArray,List.map_cons,List.map_nil]);first|done|rfl|(simp only [List.length_drop,List.length_take];rfl)) ?_;(with_reducible refine (a_U.calls t167 t168 _ A26.out).mono ?_);rintro e w' ⟨rfl,⟨nd,rfl⟩⟩;refine ⟨_,rfl,?_⟩))
     go_ret
     exact ⟨by first|rfl|(simp [a_y,a_z] <;> rfl)|(simp [*, a_y,a_z] <;> rfl),by repeat (first|(with_reducible first|exact HB.out|apply a_e|apply a_c|apply a_g|refine a_d ?_ c_f.out)|exact HB.out)⟩
    rw [if_pos c27] at H
    have c27b0 : (x3_1 == t168) = true:=beq_iff_eq.mpr c27
    have c27b1 : (x3_1 != t168) = false:=bne_eq_false_iff_eq.mpr c27
    clear c27
    replace H:=Option.bind_eq_some_iff.mp H
    obtain ⟨t169,A280,H⟩:=H
    replace H : (some (t169 == 0)) = some r:=H
    have A28:=a_a.mk A280
    clear A280
    obtain rfl:=Option.some.inj H
    have g_C : wr.cell? ⟨c_9,0,none⟩ = some (.slice A0_0 l0_0.length c0_0):=(a_h b_p.out 0).trans rfl
    have g_D:=a_f b_p.out 0
    go_wp2_with (first|((with_reducible refine a_x (f:=6) rfl ?_);refine a_Y (some 49) rfl rfl Tryd.func6 (by kernel_rfl) rfl #[.agg #[.slice A0_0 l0_0.length c0_0]] rfl (by (try simp only [List.map_toArray,List.map_cons,List.map_nil]);first|done|rfl|(simp only [List.length_drop,List.length_take];rfl)) ?_;(with_reducible refine (a_A.calls k1 _ _ l0_0 t167 _ ?side1 ?side2 A25.out).mono ?_);(case side1 => repeat (first|exact (Kd.a_K b_G.out HB.out)|(with_reducible refine Kd.a_4 ?_ _)|(with_reducible refine Kd.a_6 ?_ _)|(with_reducible refine Kd.b_a ?_)));(case side2 => exact b_U.out);rintro e w30 ⟨rfl,hb⟩;refine ⟨_,rfl,?_⟩;replace b_p:=a_a.mk (a_b (bup_ b_p.out) hb);replace HB:=a_a.mk (a_i (by repeat (first|(with_reducible first|exact HB.out|apply a_e|apply a_c|apply a_g|refine a_d ?_ c_f.out)|exact HB.out)) hb);(try clear hb);(try clear hb2);(try clear hk);(try clear hi))|((with_reducible refine a_x (f:=17) rfl ?_);refine a_Y (some 50) rfl rfl Tryd.func17 (by kernel_rfl) rfl #[.int .u32 t167] rfl (by (try simp only [List.map_toArray,List.map_cons,List.map_nil]);first|done|rfl|(simp only [List.length_drop,List.length_take];rfl)) ?_;(with_reducible refine (a_U.calls t167 t168 _ A26.out).mono ?_);rintro e w' ⟨rfl,⟨nd,rfl⟩⟩;refine ⟨_,rfl,?_⟩;have i_E : w30.cell? ⟨c_9,0,none⟩ = some (.slice A0_0 l0_0.length c0_0):=(a_h b_p.out 0).trans rfl;have i_F:=a_f b_p.out 0)|(go_at_call 12;(with_reducible refine (a_n.calls k1 _ _ l0_0 t169 _ ?side1 ?side2 A28.out).mono ?_);(case side1 => repeat (first|exact (Kd.a_K b_G.out (by repeat (first|(with_reducible first|exact HB.out|apply a_e|apply a_c|apply a_g|refine a_d ?_ c_f.out)|exact HB.out)))|(with_reducible refine Kd.a_4 ?_ _)|(with_reducible refine Kd.a_6 ?_ _)|(with_reducible refine Kd.b_a ?_)));(case side2 => exact b_U.out);rintro e w32 ⟨rfl,hb⟩;replace b_p:=a_a.mk (a_b (bup_ b_p.out) hb);replace HB:=a_a.mk (a_i (by repeat (first|(with_reducible first|exact HB.out|apply a_e|apply a_c|apply a_g|refine a_d ?_ c_f.out)|exact HB.out)) hb);(try clear hb);(try clear hb2);(try clear hk);(try clear hi)))
    go_ret
    exact ⟨by first|rfl|(simp [a_y,a_z] <;> rfl)|(simp [*, a_y,a_z] <;> rfl),by repeat (first|(with_reducible first|exact HB.out|apply a_e|apply a_c|apply a_g|refine a_d ?_ c_f.out)|exact HB.out)⟩
   rw [if_pos c4] at H
   have c4b0 : decide (x13_1 < (l0_0.length : Int)) = true:=decide_eq_true c4
   clear c4
   replace H:=Option.bind_eq_some_iff.mp H
   obtain ⟨t170,A50,H⟩:=H
   replace H : ((b_g.f t170).bind fun t171 => (a_j.l1 k1 x3_1 x13_1 t170 (l0_0.length : Int) x13_1 t171 (t171.length : Int) 0 l0_0)) = some r:=H
   have A5:=a_a.mk A50
   clear A50
   replace H:=Option.bind_eq_some_iff.mp H
   obtain ⟨t171,A60,H⟩:=H
   replace H : (a_j.l1 k1 x3_1 x13_1 t170 (l0_0.length : Int) x13_1 t171 (t171.length : Int) 0 l0_0) = some r:=H
   have A6:=a_a.mk A60
   clear A60
   have H':=a_a.mk H
   clear H
   have e_f : wr.cell? ⟨c_9,0,none⟩ = some (.slice A0_0 l0_0.length c0_0):=(a_h b_p.out 0).trans rfl
   have e_g:=a_f b_p.out 0
   go_wp2_with (first|((with_reducible refine a_x (f:=14) rfl ?_);refine a_Y (some 18) rfl rfl Tryd.func14 (by kernel_rfl) rfl #[.agg #[.slice A0_0 l0_0.length c0_0],.int .i64 x13_1] rfl (by (try simp only [List.map_toArray,List.map_cons,List.map_nil]);first|done|rfl|(simp only [List.length_drop,List.length_take];rfl)) ?_;(with_reducible refine (b_d.calls k1 _ _ l0_0 x13_1 t170 _ ?side1 ?side2 A5.out).mono ?_);(case side1 => repeat (first|exact (Kd.a_K b_G.out HB.out)|(with_reducible refine Kd.a_4 ?_ _)|(with_reducible refine Kd.a_6 ?_ _)|(with_reducible refine Kd.b_a ?_)));(case side2 => exact b_U.out);rintro e w8 ⟨rfl,hb⟩;refine ⟨_,rfl,?_⟩;replace b_p:=a_a.mk (a_b (bup_ b_p.out) hb);replace HB:=a_a.mk (a_i (by repeat (first|(with_reducible first|exact HB.out|apply a_e|apply a_c|apply a_g|refine a_d ?_ c_f.out)|exact HB.out)) hb);(try clear hb);(try clear hb2);(try clear hk);(try clear hi))|((with_reducible refine a_x (f:=15) rfl ?_);refine a_Y (some 20) rfl rfl Tryd.func15 (by kernel_rfl) rfl #[.int .u32 t170] rfl (by (try simp only [List.map_toArray,List.map_cons,List.map_nil]);first|done|rfl|(simp only [List.length_drop,List.length_take];rfl)) ?_;(with_reducible refine (b_g.calls t170 t171 _ ?side1 A6.out).mono ?_);(case side1 => exact b_Q.below HT_.out (by repeat (first|(with_reducible first|exact HB.out|apply a_e|apply a_c|apply a_g|refine a_d ?_ c_f.out)|exact HB.out)));rintro e w9 ⟨v172,rfl,ho0,hb⟩;refine ⟨_,rfl,?_⟩;have h_m:=a_a.mk (Kd.a_0 ho0 (a_r (by repeat (first|(with_reducible first|exact HB.out|apply a_e|apply a_c|apply a_g|refine a_d ?_ c_f.out)|exact HB.out))));replace b_p:=a_a.mk (a_b (bup_ b_p.out) hb);replace HB:=a_a.mk (a_i (by repeat (first|(with_reducible first|exact HB.out|apply a_e|apply a_c|apply a_g|refine a_d ?_ c_f.out)|exact HB.out)) hb);(try clear hb);(try clear hb2);(try clear hk);(try clear hi);(try clear ho0);obtain ⟨Ao10,co10,eo10⟩:=Kd.a_W h_m.out;subst eo10))
   go_loopg [22] k1 (fun kq v22 w' => ∃ (x22_2 : Int),v22 = .int .i64 x22_2 ∧ a_a (a_j.l1 kq x3_1 x13_1 t170 (l0_0.length : Int) x13_1 t171 (t171.length : Int) x22_2 l0_0 = some r) ∧ a_a (kq ≤ k1) ∧ a_a (Kd.R (Kd.int .i64) 3 w' w.heap.size (fun _ => True) (.slice Ao10 t171.length co10) t171) ∧ a_a (w'.heap[c_9]? = some (.cells #[(.slice A0_0 l0_0.length c0_0)] 26 (0,0))) ∧ a_a (Below w.heap.size w w'))
   case atStart => exact ⟨(0),(by first|rfl|(simp;done)|(simp [*];done)),H',⟨Nat.le_refl _⟩,⟨by (with_reducible repeat (first|apply Kd.a_Q|apply Kd.a_M|apply Kd.a_P));exact h_m.out⟩,⟨by (with_reducible repeat (first|refine a_o ?_ _|refine a_m ?_|refine a_p ?_ _));exact b_p.out⟩,⟨by repeat (first|(with_reducible first|exact HB.out|apply a_e|apply a_c|apply a_g|refine a_d ?_ c_f.out)|exact HB.out)⟩⟩
   case round =>
    clear H'
    try clear c1
    try clear p2
    try clear c4
    try clear c4b0
    try clear c8
    try clear g_a
    try clear e_f
    try clear g_b
    try clear e_g
    try clear p2
    obtain ⟨x22_2,rfl,HA,HK2,d_z,b_p,HB⟩:=hrel
    cases gk with
    | zero => exact absurd HA.out (by simp [a_j.l1])
    | succ k2 =>
     have H:=HA.out
     clear HA
     simp only [a_j.l1] at H
     by_cases c11 : x22_2 < (t171.length : Int)
     rotate_left
     ·rw [if_neg c11] at H
      have c11b0 : decide (x22_2 < (t171.length : Int)) = false:=decide_eq_false c11
      clear c11
      by_cases c23 : t170 = 0
      ·rw [if_pos c23] at H
       have c23b0 : (t170 == 0) = true:=beq_iff_eq.mpr c23
       have c23b1 : (t170 != 0) = false:=bne_eq_false_iff_eq.mpr c23
       clear c23
       obtain rfl:=Option.some.inj H
       go_wp2
       go_ret
       exact ⟨by first|rfl|(simp [a_y,a_z] <;> rfl)|(simp [*, a_y,a_z] <;> rfl),by repeat (first|(with_reducible first|exact HB.out|apply a_e|apply a_c|apply a_g|refine a_d ?_ c_f.out)|exact HB.out)⟩
      rw [if_neg c23] at H
      have c23b0 : (t170 == 0) = false:=beq_eq_false_iff_ne.mpr c23
      have c23b1 : (t170 != 0) = true:=bne_iff_ne.mpr c23
      replace H:=Option.bind_eq_some_iff.mp H
      obtain ⟨t177,A240,H⟩:=H
      replace H : (a_j.l0 k2 (wrap64 (x3_1 + t177)) (l0_0.length : Int) (wrap64 (x13_1 + 1)) l0_0) = some r:=H
      have A24:=a_a.mk A240
      clear A240
      have H':=a_a.mk H
      clear H
      go_wp2_with (first|((with_reducible refine a_x (f:=17) rfl ?_);refine a_Y (some 44) rfl rfl Tryd.func17 (by kernel_rfl) rfl #[.int .u32 t170] rfl (by (try simp only [List.map_toArray,List.map_cons,List.map_nil]);first|done|rfl|(simp only [List.length_drop,List.length_take];rfl)) ?_;(with_reducible refine (a_U.calls t170 t177 _ A24.out).mono ?_);rintro e w' ⟨rfl,⟨nd,rfl⟩⟩;refine ⟨_,rfl,?_⟩))
      go_roundg k2
      case measure => have:=HK1.out;have:=HK2.out;omega
      case rel => exact ⟨(wrap64 (x3_1 + t177)),(wrap64 (x13_1 + 1)),(by first|rfl|(simp;done)|(simp [*];done)),(by first|rfl|(simp;done)|(simp [*];done)),H',⟨by have:=HK1.out;have:=HK2.out;omega⟩,⟨by (with_reducible repeat (first|refine a_o ?_ _|refine a_m ?_|refine a_p ?_ _));exact b_p.out⟩,⟨by repeat (first|(with_reducible first|exact HB.out|apply a_e|apply a_c|apply a_g|refine a_d ?_ c_f.out)|exact HB.out)⟩⟩
     rw [if_pos c11] at H
     have c11b0 : decide (x22_2 < (t171.length : Int)) = true:=decide_eq_true c11
     clear c11
     by_cases c12 : 0 ≤ x22_2
     rotate_left
     ·rw [if_neg c12] at H
      exact absurd H (by simp)
     rw [if_pos c12] at H
     have c12b0 : decide (0 ≤ x22_2) = true:=decide_eq_true c12
     clear c12
     by_cases c13 : x22_2 < (t171.length : Int)
     rotate_left
     ·rw [if_neg c13] at H
      exact absurd H (by simp)
     rw [if_pos c13] at H
     have c13b0 : decide (x22_2 < (t171.length : Int)) = true:=decide_eq_true c13
     clear c13
     replace H:=Option.bind_eq_some_iff.mp H
     obtain ⟨⟨t175,t176⟩,A140,H⟩:=H
     replace H : (if t176 = true then (if t175 = x13_1 then (a_j.l1 k2 x3_1 x13_1 t170 (l0_0.length : Int) x13_1 t171 (t171.length : Int) (wrap64 (x22_2 + 1)) l0_0) else (some false)) else (some false)) = some r:=H
     have A14:=a_a.mk A140
     clear A140
     by_cases c15 : t176 = true
     rotate_left
     ·replace c15:=Bool.eq_false_iff.mpr c15
      subst c15
      have H1 : (some false) = some r:=by rw [if_neg (show ¬ (false = true) by decide)] at H;exact H
      clear H
      have H:=H1
      clear H1
      obtain rfl:=Option.some.inj H
      have p174 : 0 ≤ (x22_2 : Int):=of_decide_eq_true (by first|(with_reducible assumption)|assumption)
      have q174 : x22_2 < (t171.length : Int):=of_decide_eq_true (by first|(with_reducible assumption)|assumption)
      obtain ⟨ad174,e174,f_F⟩:=Kd.b_X (Kd.a_B d_z.out).2.2 x22_2 p174 q174
      cases e174
      replace p174:=eq_true p174
      replace q174:=eq_true q174
      have f_t : wr.cell? ⟨c_9,0,none⟩ = some (.slice A0_0 l0_0.length c0_0):=(a_h b_p.out 0).trans rfl
      have f_u:=a_f b_p.out 0
      go_wp2_with (first|((with_reducible refine a_x (f:=16) rfl ?_);refine a_Y (some 29) rfl rfl Tryd.func16 (by kernel_rfl) rfl #[.agg #[.slice A0_0 l0_0.length c0_0],.int .i64 (rd t171 x22_2)] rfl (by (try simp only [List.map_toArray,List.map_cons,List.map_nil]);first|done|rfl|(simp only [List.length_drop,List.length_take];rfl)) ?_;(with_reducible refine (a_3.calls k2 _ _ l0_0 (rd t171 x22_2) t175 false _ ?side1 ?side2 A14.out).mono ?_);(case side1 => repeat (first|exact (Kd.a_K b_G.out HB.out)|(with_reducible refine Kd.a_4 ?_ _)|(with_reducible refine Kd.a_6 ?_ _)|(with_reducible refine Kd.b_a ?_)));(case side2 => exact b_U.out);rintro e w22 ⟨rfl,hb⟩;refine ⟨_,rfl,?_⟩;replace d_z:=a_a.mk (Kd.a_G (rup_ d_z.out) hb);replace b_p:=a_a.mk (a_b (bup_ b_p.out) hb);replace HB:=a_a.mk (a_i (by repeat (first|(with_reducible first|exact HB.out|apply a_e|apply a_c|apply a_g|refine a_d ?_ c_f.out)|exact HB.out)) hb);(try clear hb);(try clear hb2);(try clear hk);(try clear hi)))
      go_ret
      exact ⟨by first|rfl|(simp [a_y,a_z] <;> rfl)|(simp [*, a_y,a_z] <;> rfl),by repeat (first|(with_reducible first|exact HB.out|apply a_e|apply a_c|apply a_g|refine a_d ?_ c_f.out)|exact HB.out)⟩
     subst c15
     have H1 : (if t175 = x13_1 then (a_j.l1 k2 x3_1 x13_1 t170 (l0_0.length : Int) x13_1 t171 (t171.length : Int) (wrap64 (x22_2 + 1)) l0_0) else (some false)) = some r:=by rw [if_pos rfl] at H;exact H
     clear H
     have H:=H1
     clear H1
     by_cases c16 : t175 = x13_1
     rotate_left
     ·rw [if_neg c16] at H
      have c16b0 : (t175 == x13_1) = false:=beq_eq_false_iff_ne.mpr c16
      have c16b1 : (t175 != x13_1) = true:=bne_iff_ne.mpr c16
      obtain rfl:=Option.some.inj H
      have p174 : 0 ≤ (x22_2 : Int):=of_decide_eq_true (by first|(with_reducible assumption)|assumption)
      have q174 : x22_2 < (t171.length : Int):=of_decide_eq_true (by first|(with_reducible assumption)|assumption)
      obtain ⟨ad174,e174,f_F⟩:=Kd.b_X (Kd.a_B d_z.out).2.2 x22_2 p174 q174
      cases e174
      replace p174:=eq_true p174
      replace q174:=eq_true q174
      have f_q : wr.cell? ⟨c_9,0,none⟩ = some (.slice A0_0 l0_0.length c0_0):=(a_h b_p.out 0).trans rfl
      have f_r:=a_f b_p.out 0
      go_wp2_with (first|((with_reducible refine a_x (f:=16) rfl ?_);refine a_Y (some 29) rfl rfl Tryd.func16 (by kernel_rfl) rfl #[.agg #[.slice A0_0 l0_0.length c0_0],.int .i64 (rd t171 x22_2)] rfl (by (try simp only [List.map_toArray,List.map_cons,List.map_nil]);first|done|rfl|(simp only [List.length_drop,List.length_take];rfl)) ?_;(with_reducible refine (a_3.calls k2 _ _ l0_0 (rd t171 x22_2) t175 true _ ?side1 ?side2 A14.out).mono ?_);(case side1 => repeat (first|exact (Kd.a_K b_G.out HB.out)|(with_reducible refine Kd.a_4 ?_ _)|(with_reducible refine Kd.a_6 ?_ _)|(with_reducible refine Kd.b_a ?_)));(case side2 => exact b_U.out);rintro e w20 ⟨rfl,hb⟩;refine ⟨_,rfl,?_⟩;replace d_z:=a_a.mk (Kd.a_G (rup_ d_z.out) hb);replace b_p:=a_a.mk (a_b (bup_ b_p.out) hb);replace HB:=a_a.mk (a_i (by repeat (first|(with_reducible first|exact HB.out|apply a_e|apply a_c|apply a_g|refine a_d ?_ c_f.out)|exact HB.out)) hb);(try clear hb);(try clear hb2);(try clear hk);(try clear hi)))
      go_ret
      exact ⟨by first|rfl|(simp [a_y,a_z] <;> rfl)|(simp [*, a_y,a_z] <;> rfl),by repeat (first|(with_reducible first|exact HB.out|apply a_e|apply a_c|apply a_g|refine a_d ?_ c_f.out)|exact HB.out)⟩
     rw [if_pos c16] at H
     have c16b0 : (t175 == x13_1) = true:=beq_iff_eq.mpr c16
     have c16b1 : (t175 != x13_1) = false:=bne_eq_false_iff_eq.mpr c16
     clear c16
     have H':=a_a.mk H
     clear H
     have p174 : 0 ≤ (x22_2 : Int):=of_decide_eq_true (by first|(with_reducible assumption)|assumption)
     have q174 : x22_2 < (t171.length : Int):=of_decide_eq_true (by first|(with_reducible assumption)|assumption)
     obtain ⟨ad174,e174,f_F⟩:=Kd.b_X (Kd.a_B d_z.out).2.2 x22_2 p174 q174
     cases e174
     replace p174:=eq_true p174
     replace q174:=eq_true q174
     have e_r : wr.cell? ⟨c_9,0,none⟩ = some (.slice A0_0 l0_0.length c0_0):=(a_h b_p.out 0).trans rfl
     have e_s:=a_f b_p.out 0
     go_wp2_with (first|((with_reducible refine a_x (f:=16) rfl ?_);refine a_Y (some 29) rfl rfl Tryd.func16 (by kernel_rfl) rfl #[.agg #[.slice A0_0 l0_0.length c0_0],.int .i64 (rd t171 x22_2)] rfl (by (try simp only [List.map_toArray,List.map_cons,List.map_nil]);first|done|rfl|(simp only [List.length_drop,List.length_take];rfl)) ?_;(with_reducible refine (a_3.calls k2 _ _ l0_0 (rd t171 x22_2) t175 true _ ?side1 ?side2 A14.out).mono ?_);(case side1 => repeat (first|exact (Kd.a_K b_G.out HB.out)|(with_reducible refine Kd.a_4 ?_ _)|(with_reducible refine Kd.a_6 ?_ _)|(with_reducible refine Kd.b_a ?_)));(case side2 => exact b_U.out);rintro e w18 ⟨rfl,hb⟩;refine ⟨_,rfl,?_⟩;replace d_z:=a_a.mk (Kd.a_G (rup_ d_z.out) hb);replace b_p:=a_a.mk (a_b (bup_ b_p.out) hb);replace HB:=a_a.mk (a_i (by repeat (first|(with_reducible first|exact HB.out|apply a_e|apply a_c|apply a_g|refine a_d ?_ c_f.out)|exact HB.out)) hb);(try clear hb);(try clear hb2);(try clear hk);(try clear hi)))
     go_roundg k2
     case measure => have:=HK1.out;have:=HK2.out;omega
     case rel => exact ⟨(wrap64 (x22_2 + 1)),(by first|rfl|(simp;done)|(simp [*];done)),H',⟨by have:=HK1.out;have:=HK2.out;omega⟩,⟨by (with_reducible repeat (first|apply Kd.a_Q|apply Kd.a_M|apply Kd.a_P));exact d_z.out⟩,⟨by (with_reducible repeat (first|refine a_o ?_ _|refine a_m ?_|refine a_p ?_ _));exact b_p.out⟩,⟨by repeat (first|(with_reducible first|exact HB.out|apply a_e|apply a_c|apply a_g|refine a_d ?_ c_f.out)|exact HB.out)⟩⟩
end Go.Proofs.YtkhbffjfclepfaaDoor.Q
end
section
namespace Go.Proofs.YtkhbffjfclepfaaDoor.Q
open Go.RowKit Go.Proofs.YtkhbffjfclepfaaDoorW.PrintWords Go.Proofs.YtkhbffjfclepfaaDoorW.PrintLast Go.Proofs.YtkhbffjfclepfaaDoorW.PrintMore
set_option linter.unusedVariables false
set_option linter.unusedSimpArgs false
def a_l.l0 : Nat → Int → List (S35) → Int → Int → List Int → Option (Bool)
 | 0,_,_,_,_,_ => none
 | k + 1,x7,x28,x29,x30,x184000 => if x30 < x29 then (if 0 ≤ x30 then (if x30 < (x28.length : Int) then (if x30 = 40 then (some true) else ((a_q.f k ((a_s x28 x30).f0) ((a_s x28 x30).f1) ((a_s x28 x30).f2) ((a_s x28 x30).f3) ((a_s x28 x30).f4) x184000).bind fun bt187 => (if bt187.2.2 = 0 then ((a_j.f k bt187.1).bind fun t193 => (if t193 = true then ((a_A.f k bt187.1).bind fun t194 => (if t194 = x7 then (a_l.l0 k x7 x28 x29 (wrap64 (x30 + 1)) bt187.1) else (some false))) else (some false))) else (a_l.l0 k x7 x28 x29 (wrap64 (x30 + 1)) x184000)))) else (none)) else (none)) else (some true)
def a_l.f (k : Nat) (a0 : Int) (l1 : List (S35)) : Option (Bool):=(a_w.f k).bind fun t178 => (if t178 = true then ((b_D.f (wrap64 (1 + (wrap64 (Int.tmod (IntKind.u64.wrap (a0)) 8))))).bind fun bt179 => (if bt179.2 = 0 then ((a_A.f k bt179.1).bind fun t184 => (a_l.l0 k t184 l1 (l1.length : Int) 0 bt179.1)) else (some false))) else (some false))
theorem a_l.b_4 : ∀ k,(∀ y0 y1 y2 y3 y4,LeO (a_l.l0 k y0 y1 y2 y3 y4) (a_l.l0 (k + 1) y0 y1 y2 y3 y4))
 | 0 => fun _ _ _ _ _ r h => by simp [a_l.l0] at h
 | k + 1 => by
  have ih0:=a_l.b_4 k
  ·intro y0 y1 y2 y3 y4
   unfold a_l.l0
   repeat' first
   | (with_reducible exact ih0 _ _ _ _ _)
   | (with_reducible exact a_q.mono _ _ _ _ _ _ _)
   | (with_reducible exact a_j.mono _ _)
   | (with_reducible exact a_w.mono _)
   | (with_reducible exact a_A.mono _ _)
   | (with_reducible exact LeO.refl _)
   | (with_reducible exact LeO.none _)
   | (with_reducible refine LeO.ite ?_ ?_)
   | (with_reducible refine LeO.bind ?_ (fun _ => ?_))
   | exact ih0 _ _ _ _ _
   | exact a_q.mono _ _ _ _ _ _ _
   | exact a_j.mono _ _
   | exact a_w.mono _
   | exact a_A.mono _ _
   | exact LeO.none _
   | refine LeO.ite ?_ ?_
   | refine LeO.bind ?_ (fun _ => ?_)
theorem a_l.mono : ∀ a0 a1 k,LeO (a_l.f k a0 a1) (a_l.f (k + 1) a0 a1):=by
 intro a0 a1 k
 have ih0:=a_l.b_4 k
 unfold a_l.f
 repeat' first
  | (with_reducible exact ih0 _ _ _ _ _)
  | (with_reducible exact a_q.mono _ _ _ _ _ _ _)
  | (with_reducible exact a_j.mono _ _)
  | (with_reducible exact a_w.mono _)
  | (with_reducible exact a_A.mono _ _)
  | (with_reducible exact LeO.refl _)
  | (with_reducible exact LeO.none _)
  | (with_reducible refine LeO.ite ?_ ?_)
  | (with_reducible refine LeO.bind ?_ (fun _ => ?_))
  | exact ih0 _ _ _ _ _
  | exact a_q.mono _ _ _ _ _ _ _
  | exact a_j.mono _ _
  | exact a_w.mono _
  | exact a_A.mono _ _
  | exact LeO.none _
  | refine LeO.ite ?_ ?_
  | refine LeO.bind ?_ (fun _ => ?_)
set_option maxHeartbeats 8000000 in
set_option maxRecDepth 100000 in
theorem a_l.calls (k : Nat) (a0 : Int) (A1 : Option Addr) (c1 : Nat) (l1 : List (S35)) (r : Bool) (w : World) (hr1 : Kd.C k35 w A1 l1.length l1) (hc1 : l1.length ≤ c1) (ht : b_Q w) (h : a_l.f k a0 l1 = some r) :
 Calls Tryd.prog 3 #[.int .i64 a0,.slice A1 l1.length c1] w fun e w' => e = .returned (.bool r) ∧ Below w.heap.size w w':=by
 have hu26:=Tryd.underlying26
 have hu35:=Tryd.underlying35
 have HT_:=a_a.mk ht
 clear ht
 have HR1:=a_a.mk hr1
 have HC1:=a_a.mk hc1
 clear hr1 hc1
 have HB:=a_a.mk (Below.refl w.heap.size w)
 have H : ((a_w.f k).bind fun t178 => (if t178 = true then ((b_D.f (wrap64 (1 + (wrap64 (Int.tmod (IntKind.u64.wrap (a0)) 8))))).bind fun bt179 => (if bt179.2 = 0 then ((a_A.f k bt179.1).bind fun t184 => (a_l.l0 k t184 l1 (l1.length : Int) 0 bt179.1)) else (some false))) else (some false))) = some r:=h
 clear h
 replace H:=Option.bind_eq_some_iff.mp H
 obtain ⟨t178,A30,H⟩:=H
 replace H : (if t178 = true then ((b_D.f (wrap64 (1 + (wrap64 (Int.tmod (IntKind.u64.wrap (a0)) 8))))).bind fun bt179 => (if bt179.2 = 0 then ((a_A.f k bt179.1).bind fun t184 => (a_l.l0 k t184 l1 (l1.length : Int) 0 bt179.1)) else (some false))) else (some false)) = some r:=H
 have A3:=a_a.mk A30
 clear A30
 by_cases c4 : t178 = true
 rotate_left
 ·replace c4:=Bool.eq_false_iff.mpr c4
  subst c4
  have H1 : (some false) = some r:=by rw [if_neg (show ¬ (false = true) by decide)] at H;exact H
  clear H
  have H:=H1
  clear H1
  obtain rfl:=Option.some.inj H
  go_enter Tryd.func3,Tryd.ntmps3
  go_wp2_with (first|((with_reducible refine a_x (f:=4) rfl ?_);refine a_Y (some 13) rfl rfl Tryd.func4 (by kernel_rfl) rfl #[] rfl (by (try simp only [List.map_toArray,List.map_cons,List.map_nil]);first|done|rfl|(simp only [List.length_drop,List.length_take];rfl)) ?_;(with_reducible refine (a_w.calls k  false _ A3.out).mono ?_);rintro e w85 ⟨rfl,hb⟩;refine ⟨_,rfl,?_⟩;replace HB:=a_a.mk (a_i (lup_ HB.out) hb);(try clear hb);(try clear hb2);(try clear hk);(try clear hi)))
  go_ret
  exact ⟨by first|rfl|(simp [a_y,a_z] <;> rfl)|(simp [*, a_y,a_z] <;> rfl),by repeat (first|(with_reducible first|exact HB.out|apply a_e|apply a_c|apply a_g)|exact HB.out)⟩
 subst c4
 have H1 : ((b_D.f (wrap64 (1 + (wrap64 (Int.tmod (IntKind.u64.wrap (a0)) 8))))).bind fun bt179 => (if bt179.2 = 0 then ((a_A.f k bt179.1).bind fun t184 => (a_l.l0 k t184 l1 (l1.length : Int) 0 bt179.1)) else (some false))) = some r:=by rw [if_pos rfl] at H;exact H
 clear H
 have H:=H1
 clear H1
 replace H:=Option.bind_eq_some_iff.mp H
 obtain ⟨⟨t179,t182⟩,A50,H⟩:=H
 replace H : (if t182 = 0 then ((a_A.f k t179).bind fun t184 => (a_l.l0 k t184 l1 (l1.length : Int) 0 t179)) else (some false)) = some r:=H
 have A5:=a_a.mk A50
 clear A50
 by_cases c6 : t182 = 0
 rotate_left
 ·rw [if_neg c6] at H
  have c6b0 : (t182 == 0) = false:=beq_eq_false_iff_ne.mpr c6
  have c6b1 : (t182 != 0) = true:=bne_iff_ne.mpr c6
  obtain rfl:=Option.some.inj H
  go_enter Tryd.func3,Tryd.ntmps3
  go_wp2_with (first|((with_reducible refine a_x (f:=4) rfl ?_);refine a_Y (some 13) rfl rfl Tryd.func4 (by kernel_rfl) rfl #[] rfl (by (try simp only [List.map_toArray,List.map_cons,List.map_nil]);first|done|rfl|(simp only [List.length_drop,List.length_take];rfl)) ?_;(with_reducible refine (a_w.calls k  true _ A3.out).mono ?_);rintro e w80 ⟨rfl,hb⟩;refine ⟨_,rfl,?_⟩;replace HB:=a_a.mk (a_i (lup_ HB.out) hb);(try clear hb);(try clear hb2);(try clear hk);(try clear hi))|((with_reducible refine a_x (f:=5) rfl ?_);refine a_Y (some 21) rfl rfl Tryd.func5 (by kernel_rfl) rfl #[.int .i64 (wrap64 (1 + (wrap64 (Int.tmod (IntKind.u64.wrap (a0)) 8))))] rfl (by (try simp only [List.map_toArray,List.map_cons,List.map_nil]);first|done|rfl|(simp only [List.length_drop,List.length_take];rfl)) ?_;(with_reducible refine (b_D.calls (wrap64 (1 + (wrap64 (Int.tmod (IntKind.u64.wrap (a0)) 8)))) t179 t182 _ A5.out).mono ?_);rintro e w81 ⟨v180,rfl,ho0,hb⟩;refine ⟨_,rfl,?_⟩;have d_a:=a_a.mk (Kd.a_0 ho0 (a_r (lup_ HB.out)));replace HB:=a_a.mk (a_i (lup_ HB.out) hb);(try clear hb);(try clear hb2);(try clear hk);(try clear hi);(try clear ho0))|((with_reducible refine a_u (N:=5) rfl ?_);refine a_t ?hg (N:=5) ?hd (cs:=#[.slice none 0 0]) (t:=26) ?hr ?_;(case hd => rfl);(case hg => rfl);(case hr => first|(go_simp;done)|(go_simp;rfl));intro b_e hg w82 hbox hb;have a_T:=a_a.mk (hbox);have i_G:=a_a.mk ((by rw [hg];exact (a_r (lup_ HB.out)) : w.heap.size ≤ b_e));have a_8:=a_a.mk ((by rw [hg];exact (a_r (lup_ HB.out)) : w.heap.size ≤ b_e));replace d_a:=a_a.mk (Kd.a_G (rup_ d_a.out) hb);replace HB:=a_a.mk (a_i (lup_ HB.out) hb);clear hb hbox hg;obtain ⟨Ao83,co83,eo83⟩:=Kd.a_W d_a.out;subst eo83;have i_H : w82.cell? ⟨b_e,0,none⟩ = some (.slice none 0 0):=(a_h a_T.out 0).trans rfl;have i_I:=a_f a_T.out 0))
  go_ret
  exact ⟨by first|rfl|(simp [a_y,a_z] <;> rfl)|(simp [*, a_y,a_z] <;> rfl),by repeat (first|(with_reducible first|exact HB.out|apply a_e|apply a_c|apply a_g|refine a_d ?_ a_8.out)|exact HB.out)⟩
 rw [if_pos c6] at H
 have c6b0 : (t182 == 0) = true:=beq_iff_eq.mpr c6
 have c6b1 : (t182 != 0) = false:=bne_eq_false_iff_eq.mpr c6
 clear c6
 replace H:=Option.bind_eq_some_iff.mp H
 obtain ⟨t184,A70,H⟩:=H
 replace H : (a_l.l0 k t184 l1 (l1.length : Int) 0 t179) = some r:=H
 have A7:=a_a.mk A70
 clear A70
 have H':=a_a.mk H
 clear H
 go_enter Tryd.func3,Tryd.ntmps3
 go_wp2_with (first|((with_reducible refine a_x (f:=4) rfl ?_);refine a_Y (some 13) rfl rfl Tryd.func4 (by kernel_rfl) rfl #[] rfl (by (try simp only [List.map_toArray,List.map_cons,List.map_nil]);first|done|rfl|(simp only [List.length_drop,List.length_take];rfl)) ?_;(with_reducible refine (a_w.calls k  true _ A3.out).mono ?_);rintro e w8 ⟨rfl,hb⟩;refine ⟨_,rfl,?_⟩;replace HB:=a_a.mk (a_i (lup_ HB.out) hb);(try clear hb);(try clear hb2);(try clear hk);(try clear hi))|((with_reducible refine a_x (f:=5) rfl ?_);refine a_Y (some 21) rfl rfl Tryd.func5 (by kernel_rfl) rfl #[.int .i64 (wrap64 (1 + (wrap64 (Int.tmod (IntKind.u64.wrap (a0)) 8))))] rfl (by (try simp only [List.map_toArray,List.map_cons,List.map_nil]);first|done|rfl|(simp only [List.length_drop,List.length_take];rfl)) ?_;(with_reducible refine (b_D.calls (wrap64 (1 + (wrap64 (Int.tmod (IntKind.u64.wrap (a0)) 8)))) t179 t182 _ A5.out).mono ?_);rintro e w9 ⟨v180,rfl,ho0,hb⟩;refine ⟨_,rfl,?_⟩;have d_a:=a_a.mk (Kd.a_0 ho0 (a_r (lup_ HB.out)));replace HB:=a_a.mk (a_i (lup_ HB.out) hb);(try clear hb);(try clear hb2);(try clear hk);(try clear hi);(try clear ho0))|((with_reducible refine a_u (N:=5) rfl ?_);refine a_t ?hg (N:=5) ?hd (cs:=#[.slice none 0 0]) (t:=26) ?hr ?_;(case hd => rfl);(case hg => rfl);(case hr => first|(go_simp;done)|(go_simp;rfl));intro b_e hg w10 hbox hb;have a_T:=a_a.mk (hbox);have i_G:=a_a.mk ((by rw [hg];exact (a_r (lup_ HB.out)) : w.heap.size ≤ b_e));have a_8:=a_a.mk ((by rw [hg];exact (a_r (lup_ HB.out)) : w.heap.size ≤ b_e));replace d_a:=a_a.mk (Kd.a_G (rup_ d_a.out) hb);replace HB:=a_a.mk (a_i (lup_ HB.out) hb);clear hb hbox hg;obtain ⟨Ao11,co11,eo11⟩:=Kd.a_W d_a.out;subst eo11;have d_R : w10.cell? ⟨b_e,0,none⟩ = some (.slice none 0 0):=(a_h a_T.out 0).trans rfl;have d_S:=a_f a_T.out 0)|((with_reducible refine a_x (f:=6) rfl ?_);refine a_Y (some 27) rfl rfl Tryd.func6 (by kernel_rfl) rfl #[.agg #[.slice Ao11 t179.length co11]] rfl (by (try simp only [List.map_toArray,List.map_cons,List.map_nil]);first|done|rfl|(simp only [List.length_drop,List.length_take];rfl)) ?_;(with_reducible refine (a_A.calls k _ _ t179 t184 _ ?side1 ?side2 A7.out).mono ?_);(case side1 => refine (Kd.a_B (e:=32) (base:=w.heap.size) (ok:=fun k_ => True) (n:=t179.length) (c:=co11) ?_).2.2;exact (by (with_reducible repeat (first|apply Kd.a_Q|apply Kd.a_M|apply Kd.a_P));exact (Kd.a_V (Kd.a_O (p:=⟨b_e,0,none⟩) (Kd.a_R d_a.out a_T.out (by decide)) (fun _ hk => hk.2) (.slice Ao11 t179.length co11)) (fun _ h_ => h_.1))));(case side2 => exact (Kd.a_B d_a.out).2.1);rintro e w13 ⟨rfl,hb⟩;refine ⟨_,rfl,?_⟩;replace d_a:=a_a.mk (Kd.a_G (by (with_reducible repeat (first|apply Kd.a_Q|apply Kd.a_M|apply Kd.a_P));exact (Kd.a_V (Kd.a_O (p:=⟨b_e,0,none⟩) (Kd.a_R d_a.out a_T.out (by decide)) (fun _ hk => hk.2) (.slice Ao11 t179.length co11)) (fun _ h_ => h_.1))) hb);replace a_T:=a_a.mk (a_b (g:=b_e) (o:=.cells #[.slice Ao11 t179.length co11] 26 (0,0)) (by (with_reducible repeat (first|refine a_o ?_ _|refine a_m ?_|refine a_p ?_ _));refine a_D (cs:=#[.slice none 0 0]) ?_ 0 _ rfl;(with_reducible repeat (first|refine a_o ?_ _|refine a_m ?_|refine a_p ?_ _));exact a_T.out) hb);replace HB:=a_a.mk (a_i (by repeat (first|(with_reducible first|exact HB.out|apply a_e|apply a_c|apply a_g|refine a_d ?_ a_8.out)|exact HB.out)) hb);(try clear hb);(try clear hb2);(try clear hk);(try clear hi)))
 go_loopg [30] k (fun kq v30 w' => ∃ (x30_1 : Int) (x184000_1 : List Int) (u184000 : Value),v30 = .int .i64 x30_1 ∧ a_a (a_l.l0 kq t184 l1 (l1.length : Int) x30_1 x184000_1 = some r) ∧ a_a (kq ≤ k) ∧ a_a (Kd.R (Kd.int .u32) 32 w' w.heap.size (fun _ => True) u184000 x184000_1) ∧ a_a (w'.heap[b_e]? = some (.cells #[u184000] 26 (0,0))) ∧ a_a (Below w.heap.size w w'))
 case atStart => exact ⟨(0),(t179),(.slice Ao11 t179.length co11),(by first|rfl|(simp;done)|(simp [*];done)),H',⟨Nat.le_refl _⟩,⟨by (with_reducible repeat (first|apply Kd.a_Q|apply Kd.a_M|apply Kd.a_P));exact d_a.out⟩,⟨by (with_reducible repeat (first|refine a_o ?_ _|refine a_m ?_|refine a_p ?_ _));exact a_T.out⟩,⟨by repeat (first|(with_reducible first|exact HB.out|apply a_e|apply a_c|apply a_g|refine a_d ?_ a_8.out)|exact HB.out)⟩⟩
 case round =>
  clear H'
  try clear c1
  try clear p2
  try clear c3
  try clear c4
  try clear c5
  try clear c6
  try clear c6b0
  try clear c6b1
  try clear p6
  try clear d_R
  try clear d_S
  obtain ⟨x30_1,x184000_1,u184000,rfl,HA,HK1,a_C,a_T,HB⟩:=hrel
  cases gk with
  | zero => exact absurd HA.out (by simp [a_l.l0])
  | succ k1 =>
   have H:=HA.out
   clear HA
   simp only [a_l.l0] at H
   by_cases c14 : x30_1 < (l1.length : Int)
   rotate_left
   ·rw [if_neg c14] at H
    have c14b0 : decide (x30_1 < (l1.length : Int)) = false:=decide_eq_false c14
    clear c14
    obtain rfl:=Option.some.inj H
    go_wp2
    go_ret
    exact ⟨by first|rfl|(simp [a_y,a_z] <;> rfl)|(simp [*, a_y,a_z] <;> rfl),by repeat (first|(with_reducible first|exact HB.out|apply a_e|apply a_c|apply a_g|refine a_d ?_ a_8.out)|exact HB.out)⟩
   rw [if_pos c14] at H
   have c14b0 : decide (x30_1 < (l1.length : Int)) = true:=decide_eq_true c14
   clear c14
   by_cases c15 : 0 ≤ x30_1
   rotate_left
   ·rw [if_neg c15] at H
    exact absurd H (by simp)
   rw [if_pos c15] at H
   have c15b0 : decide (0 ≤ x30_1) = true:=decide_eq_true c15
   clear c15
   by_cases c16 : x30_1 < (l1.length : Int)
   rotate_left
   ·rw [if_neg c16] at H
    exact absurd H (by simp)
   rw [if_pos c16] at H
   have c16b0 : decide (x30_1 < (l1.length : Int)) = true:=decide_eq_true c16
   clear c16
   by_cases c17 : x30_1 = 40
   ·rw [if_pos c17] at H
    have c17b0 : (x30_1 == 40) = true:=beq_iff_eq.mpr c17
    have c17b1 : (x30_1 != 40) = false:=bne_eq_false_iff_eq.mpr c17
    clear c17
    obtain rfl:=Option.some.inj H
    have p185 : 0 ≤ (x30_1 : Int):=of_decide_eq_true (by first|(with_reducible assumption)|assumption)
    have q185 : x30_1 < (l1.length : Int):=of_decide_eq_true (by first|(with_reducible assumption)|assumption)
    obtain ⟨ad185,e185,b_h,b_i,b_j,b_k,b_l⟩:=e_d HR1.out x30_1 p185 q185
    cases e185
    replace b_h:=(HB.out.cell (World.block_lt_of_cell? w _ b_h)).trans b_h
    replace b_i:=(HB.out.cell (World.block_lt_of_cell? w _ b_i)).trans b_i
    replace b_j:=(HB.out.cell (World.block_lt_of_cell? w _ b_j)).trans b_j
    replace b_k:=(HB.out.cell (World.block_lt_of_cell? w _ b_k)).trans b_k
    replace b_l:=(HB.out.cell (World.block_lt_of_cell? w _ b_l)).trans b_l
    replace p185:=eq_true p185
    replace q185:=eq_true q185
    go_wp2_with (first|((with_reducible refine a_u (N:=9) rfl ?_);refine a_t ?hg (N:=9) ?hd (cs:=#[.int .i64 0,.int .i64 0,.int .i64 0,.int .i64 0,.int .u32 0]) (t:=35) ?hr ?_;(case hd => rfl);(case hg => rfl);(case hr => first|(go_simp;done)|(go_simp;rfl));intro a_E hg w18 hbox hb;have a_L:=a_a.mk (hbox);have f_0:=a_a.mk ((by rw [hg];exact (a_r (by repeat (first|(with_reducible first|exact HB.out|apply a_e|apply a_c|apply a_g|refine a_d ?_ a_8.out)|exact HB.out))) : w.heap.size ≤ a_E));have b_s:=a_a.mk ((by rw [hg];exact (a_r (by repeat (first|(with_reducible first|exact HB.out|apply a_e|apply a_c|apply a_g|refine a_d ?_ a_8.out)|exact HB.out))) : w.heap.size ≤ a_E));have a_S:=a_a.mk ((by rw [hg];exact Nat.ne_of_lt (a_k (bup_ a_T.out)) : b_e ≠ a_E));have b_K:=a_a.mk ((by rw [hg];exact Nat.ne_of_gt (a_k (bup_ a_T.out)) : a_E ≠ b_e));replace a_C:=a_a.mk (Kd.a_G (rup_ a_C.out) hb);replace a_T:=a_a.mk (a_b (bup_ a_T.out) hb);replace HB:=a_a.mk (a_i (by repeat (first|(with_reducible first|exact HB.out|apply a_e|apply a_c|apply a_g|refine a_d ?_ a_8.out)|exact HB.out)) hb);clear hb hbox hg;have j_8:=b_K.out;have j_9:=a_S.out;have g_w : w18.cell? ⟨a_E,0,none⟩ = some (.int .i64 0):=(a_h a_L.out 0).trans rfl;have i_J : w18.cell? ⟨a_E,1,none⟩ = some (.int .i64 0):=(a_h a_L.out 1).trans rfl;have i_K : w18.cell? ⟨a_E,2,none⟩ = some (.int .i64 0):=(a_h a_L.out 2).trans rfl;have i_L : w18.cell? ⟨a_E,3,none⟩ = some (.int .i64 0):=(a_h a_L.out 3).trans rfl;have i_M : w18.cell? ⟨a_E,4,none⟩ = some (.int .u32 0):=(a_h a_L.out 4).trans rfl;have g_x:=a_f a_L.out 0;have i_N:=a_f a_L.out 1;have i_O:=a_f a_L.out 2;have i_P:=a_f a_L.out 3;have i_Q:=a_f a_L.out 4))
    go_ret
    exact ⟨by first|rfl|(simp [a_y,a_z] <;> rfl)|(simp [*, a_y,a_z] <;> rfl),by repeat (first|(with_reducible first|exact HB.out|apply a_e|apply a_c|apply a_g|refine a_d ?_ a_8.out|refine a_d ?_ b_s.out)|exact HB.out)⟩
   rw [if_neg c17] at H
   have c17b0 : (x30_1 == 40) = false:=beq_eq_false_iff_ne.mpr c17
   have c17b1 : (x30_1 != 40) = true:=bne_iff_ne.mpr c17
   replace H:=Option.bind_eq_some_iff.mp H
   obtain ⟨⟨t187,t190,t191⟩,A210,H⟩:=H
   replace H : (if t191 = 0 then ((a_j.f k1 t187).bind fun t193 => (if t193 = true then ((a_A.f k1 t187).bind fun t194 => (if t194 = t184 then (a_l.l0 k1 t184 l1 (l1.length : Int) (wrap64 (x30_1 + 1)) t187) else (some false))) else (some false))) else (a_l.l0 k1 t184 l1 (l1.length : Int) (wrap64 (x30_1 + 1)) x184000_1)) = some r:=H
   have A21:=a_a.mk A210
   clear A210
   by_cases c22 : t191 = 0
   rotate_left
   ·rw [if_neg c22] at H
    have c22b0 : (t191 == 0) = false:=beq_eq_false_iff_ne.mpr c22
    have c22b1 : (t191 != 0) = true:=bne_iff_ne.mpr c22
    have H':=a_a.mk H
    clear H
    have p185 : 0 ≤ (x30_1 : Int):=of_decide_eq_true (by first|(with_reducible assumption)|assumption)
    have q185 : x30_1 < (l1.length : Int):=of_decide_eq_true (by first|(with_reducible assumption)|assumption)
    obtain ⟨ad185,e185,b_h,b_i,b_j,b_k,b_l⟩:=e_d HR1.out x30_1 p185 q185
    cases e185
    replace b_h:=(HB.out.cell (World.block_lt_of_cell? w _ b_h)).trans b_h
    replace b_i:=(HB.out.cell (World.block_lt_of_cell? w _ b_i)).trans b_i
    replace b_j:=(HB.out.cell (World.block_lt_of_cell? w _ b_j)).trans b_j
    replace b_k:=(HB.out.cell (World.block_lt_of_cell? w _ b_k)).trans b_k
    replace b_l:=(HB.out.cell (World.block_lt_of_cell? w _ b_l)).trans b_l
    replace p185:=eq_true p185
    replace q185:=eq_true q185
    go_wp2_with (first|((with_reducible refine a_u (N:=9) rfl ?_);refine a_t ?hg (N:=9) ?hd (cs:=#[.int .i64 0,.int .i64 0,.int .i64 0,.int .i64 0,.int .u32 0]) (t:=35) ?hr ?_;(case hd => rfl);(case hg => rfl);(case hr => first|(go_simp;done)|(go_simp;rfl));intro a_E hg w69 hbox hb;have a_L:=a_a.mk (hbox);have f_0:=a_a.mk ((by rw [hg];exact (a_r (by repeat (first|(with_reducible first|exact HB.out|apply a_e|apply a_c|apply a_g|refine a_d ?_ a_8.out)|exact HB.out))) : w.heap.size ≤ a_E));have b_s:=a_a.mk ((by rw [hg];exact (a_r (by repeat (first|(with_reducible first|exact HB.out|apply a_e|apply a_c|apply a_g|refine a_d ?_ a_8.out)|exact HB.out))) : w.heap.size ≤ a_E));have a_S:=a_a.mk ((by rw [hg];exact Nat.ne_of_lt (a_k (bup_ a_T.out)) : b_e ≠ a_E));have b_K:=a_a.mk ((by rw [hg];exact Nat.ne_of_gt (a_k (bup_ a_T.out)) : a_E ≠ b_e));replace a_C:=a_a.mk (Kd.a_G (rup_ a_C.out) hb);replace a_T:=a_a.mk (a_b (bup_ a_T.out) hb);replace HB:=a_a.mk (a_i (by repeat (first|(with_reducible first|exact HB.out|apply a_e|apply a_c|apply a_g|refine a_d ?_ a_8.out)|exact HB.out)) hb);clear hb hbox hg;have k_a:=b_K.out;have k_b:=a_S.out;have i_R : w69.cell? ⟨a_E,0,none⟩ = some (.int .i64 0):=(a_h a_L.out 0).trans rfl;have i_S : w69.cell? ⟨a_E,1,none⟩ = some (.int .i64 0):=(a_h a_L.out 1).trans rfl;have i_T : w69.cell? ⟨a_E,2,none⟩ = some (.int .i64 0):=(a_h a_L.out 2).trans rfl;have i_U : w69.cell? ⟨a_E,3,none⟩ = some (.int .i64 0):=(a_h a_L.out 3).trans rfl;have i_V : w69.cell? ⟨a_E,4,none⟩ = some (.int .u32 0):=(a_h a_L.out 4).trans rfl;have i_W:=a_f a_L.out 0;have i_X:=a_f a_L.out 1;have i_Y:=a_f a_L.out 2;have i_Z:=a_f a_L.out 3;have i_0:=a_f a_L.out 4;have i_1 : w69.cell? ⟨b_e,0,none⟩ = some (u184000):=(a_h a_T.out 0).trans rfl;have i_2:=a_f a_T.out 0;obtain ⟨Ao73,co73,eo73⟩:=Kd.a_W a_C.out;subst eo73)|((with_reducible refine a_x (f:=7) rfl ?_);refine a_Y (some 40) rfl rfl Tryd.func7 (by kernel_rfl) rfl #[.agg #[.int .i64 ((a_s l1 x30_1).f0),.int .i64 ((a_s l1 x30_1).f1),.int .i64 ((a_s l1 x30_1).f2),.int .i64 ((a_s l1 x30_1).f3),.int .u32 ((a_s l1 x30_1).f4)],.agg #[.slice Ao73 x184000_1.length co73]] rfl (by (try simp only [List.map_toArray,List.map_cons,List.map_nil]);first|done|rfl|(simp only [List.length_drop,List.length_take];rfl)) ?_;(with_reducible refine (a_q.calls k1 ((a_s l1 x30_1).f0) ((a_s l1 x30_1).f1) ((a_s l1 x30_1).f2) ((a_s l1 x30_1).f3) ((a_s l1 x30_1).f4) _ _ x184000_1 t187 t190 t191 _ ?side1 ?side2 A21.out).mono ?_);(case side1 => refine (Kd.a_B (e:=32) (base:=w.heap.size) (ok:=fun k_ => True) (n:=x184000_1.length) (c:=co73) ?_).2.2;exact (by (with_reducible repeat (first|apply Kd.a_Q|apply Kd.a_M|apply Kd.a_P));exact (Kd.a_V (Kd.a_O (p:=⟨a_E,4,none⟩) (Kd.a_O (p:=⟨a_E,3,none⟩) (Kd.a_O (p:=⟨a_E,2,none⟩) (Kd.a_O (p:=⟨a_E,1,none⟩) (Kd.a_O (p:=⟨a_E,0,none⟩) (Kd.a_R a_C.out a_L.out (by decide)) (fun _ hk => hk.2) (.int .i64 ((a_s l1 x30_1).f0))) (fun _ hk => hk.2) (.int .i64 ((a_s l1 x30_1).f1))) (fun _ hk => hk.2) (.int .i64 ((a_s l1 x30_1).f2))) (fun _ hk => hk.2) (.int .i64 ((a_s l1 x30_1).f3))) (fun _ hk => hk.2) (.int .u32 ((a_s l1 x30_1).f4))) (fun _ h_ => h_.1))));(case side2 => exact (Kd.a_B a_C.out).2.1);rintro e w74 ⟨v188,rfl,ho0,hb⟩;refine ⟨_,rfl,?_⟩;have b_v:=a_a.mk (Kd.a_0 (Kd.c_D ho0 (Kd.R_lt (by (with_reducible repeat (first|apply Kd.a_Q|apply Kd.a_M|apply Kd.a_P));exact (Kd.a_V (Kd.a_O (p:=⟨a_E,4,none⟩) (Kd.a_O (p:=⟨a_E,3,none⟩) (Kd.a_O (p:=⟨a_E,2,none⟩) (Kd.a_O (p:=⟨a_E,1,none⟩) (Kd.a_O (p:=⟨a_E,0,none⟩) (Kd.a_R a_C.out a_L.out (by decide)) (fun _ hk => hk.2) (.int .i64 ((a_s l1 x30_1).f0))) (fun _ hk => hk.2) (.int .i64 ((a_s l1 x30_1).f1))) (fun _ hk => hk.2) (.int .i64 ((a_s l1 x30_1).f2))) (fun _ hk => hk.2) (.int .i64 ((a_s l1 x30_1).f3))) (fun _ hk => hk.2) (.int .u32 ((a_s l1 x30_1).f4))) (fun _ h_ => h_.1))))) (a_r (by repeat (first|(with_reducible first|exact HB.out|apply a_e|apply a_c|apply a_g|refine a_d ?_ a_8.out|refine a_d ?_ b_s.out)|exact HB.out))));replace a_C:=a_a.mk (Kd.b_P (by (with_reducible repeat (first|apply Kd.a_Q|apply Kd.a_M|apply Kd.a_P));exact (Kd.a_V (Kd.a_O (p:=⟨a_E,4,none⟩) (Kd.a_O (p:=⟨a_E,3,none⟩) (Kd.a_O (p:=⟨a_E,2,none⟩) (Kd.a_O (p:=⟨a_E,1,none⟩) (Kd.a_O (p:=⟨a_E,0,none⟩) (Kd.a_R a_C.out a_L.out (by decide)) (fun _ hk => hk.2) (.int .i64 ((a_s l1 x30_1).f0))) (fun _ hk => hk.2) (.int .i64 ((a_s l1 x30_1).f1))) (fun _ hk => hk.2) (.int .i64 ((a_s l1 x30_1).f2))) (fun _ hk => hk.2) (.int .i64 ((a_s l1 x30_1).f3))) (fun _ hk => hk.2) (.int .u32 ((a_s l1 x30_1).f4))) (fun _ h_ => h_.1))) (Kd.b_6 ho0) hb);replace a_T:=a_a.mk (a_b (g:=b_e) (o:=.cells #[.slice Ao73 x184000_1.length co73] 26 (0,0)) (by (with_reducible repeat (first|refine a_o ?_ _|refine a_m ?_|refine a_p ?_ _));refine a_v ?_ a_S.out _;(with_reducible repeat (first|refine a_o ?_ _|refine a_m ?_|refine a_p ?_ _));refine a_v ?_ a_S.out _;(with_reducible repeat (first|refine a_o ?_ _|refine a_m ?_|refine a_p ?_ _));refine a_v ?_ a_S.out _;(with_reducible repeat (first|refine a_o ?_ _|refine a_m ?_|refine a_p ?_ _));refine a_v ?_ a_S.out _;(with_reducible repeat (first|refine a_o ?_ _|refine a_m ?_|refine a_p ?_ _));refine a_v ?_ a_S.out _;(with_reducible repeat (first|refine a_o ?_ _|refine a_m ?_|refine a_p ?_ _));exact a_T.out) hb);replace a_L:=a_a.mk (a_b (g:=a_E) (o:=.cells #[.int .i64 ((a_s l1 x30_1).f0),.int .i64 ((a_s l1 x30_1).f1),.int .i64 ((a_s l1 x30_1).f2),.int .i64 ((a_s l1 x30_1).f3),.int .u32 ((a_s l1 x30_1).f4)] 35 (0,0)) (by (with_reducible repeat (first|refine a_o ?_ _|refine a_m ?_|refine a_p ?_ _));refine a_D (cs:=#[.int .i64 ((a_s l1 x30_1).f0),.int .i64 ((a_s l1 x30_1).f1),.int .i64 ((a_s l1 x30_1).f2),.int .i64 ((a_s l1 x30_1).f3),.int .u32 0]) ?_ 4 _ rfl;(with_reducible repeat (first|refine a_o ?_ _|refine a_m ?_|refine a_p ?_ _));refine a_D (cs:=#[.int .i64 ((a_s l1 x30_1).f0),.int .i64 ((a_s l1 x30_1).f1),.int .i64 ((a_s l1 x30_1).f2),.int .i64 0,.int .u32 0]) ?_ 3 _ rfl;(with_reducible repeat (first|refine a_o ?_ _|refine a_m ?_|refine a_p ?_ _));refine a_D (cs:=#[.int .i64 ((a_s l1 x30_1).f0),.int .i64 ((a_s l1 x30_1).f1),.int .i64 0,.int .i64 0,.int .u32 0]) ?_ 2 _ rfl;(with_reducible repeat (first|refine a_o ?_ _|refine a_m ?_|refine a_p ?_ _));refine a_D (cs:=#[.int .i64 ((a_s l1 x30_1).f0),.int .i64 0,.int .i64 0,.int .i64 0,.int .u32 0]) ?_ 1 _ rfl;(with_reducible repeat (first|refine a_o ?_ _|refine a_m ?_|refine a_p ?_ _));refine a_D (cs:=#[.int .i64 0,.int .i64 0,.int .i64 0,.int .i64 0,.int .u32 0]) ?_ 0 _ rfl;(with_reducible repeat (first|refine a_o ?_ _|refine a_m ?_|refine a_p ?_ _));exact a_L.out) hb);replace HB:=a_a.mk (a_i (by repeat (first|(with_reducible first|exact HB.out|apply a_e|apply a_c|apply a_g|refine a_d ?_ a_8.out|refine a_d ?_ b_s.out)|exact HB.out)) hb);(try clear hb);(try clear hb2);(try clear hk);(try clear hi);(try clear ho0))|((with_reducible refine a_u (N:=10) rfl ?_);refine a_t ?hg (N:=10) ?hd (cs:=#[.slice none 0 0]) (t:=26) ?hr ?_;(case hd => rfl);(case hg => rfl);(case hr => first|(go_simp;done)|(go_simp;rfl));intro b_b hg w75 hbox hb;have b_t:=a_a.mk (hbox);have g_E:=a_a.mk ((by rw [hg];exact (a_r (by repeat (first|(with_reducible first|exact HB.out|apply a_e|apply a_c|apply a_g|refine a_d ?_ a_8.out|refine a_d ?_ b_s.out)|exact HB.out))) : w.heap.size ≤ b_b));have c_L:=a_a.mk ((by rw [hg];exact (a_r (by repeat (first|(with_reducible first|exact HB.out|apply a_e|apply a_c|apply a_g|refine a_d ?_ a_8.out|refine a_d ?_ b_s.out)|exact HB.out))) : w.heap.size ≤ b_b));have b_y:=a_a.mk ((by rw [hg];exact Nat.ne_of_lt (a_k (bup_ a_T.out)) : b_e ≠ b_b));have b_Z:=a_a.mk ((by rw [hg];exact Nat.ne_of_gt (a_k (bup_ a_T.out)) : b_b ≠ b_e));have b_C:=a_a.mk ((by rw [hg];exact Nat.ne_of_lt (a_k (bup_ a_L.out)) : a_E ≠ b_b));have b_0:=a_a.mk ((by rw [hg];exact Nat.ne_of_gt (a_k (bup_ a_L.out)) : b_b ≠ a_E));replace a_C:=a_a.mk (Kd.a_G (rup_ a_C.out) hb);replace b_v:=a_a.mk (Kd.a_G (rup_ b_v.out) hb);replace a_T:=a_a.mk (a_b (bup_ a_T.out) hb);replace a_L:=a_a.mk (a_b (bup_ a_L.out) hb);replace HB:=a_a.mk (a_i (by repeat (first|(with_reducible first|exact HB.out|apply a_e|apply a_c|apply a_g|refine a_d ?_ a_8.out|refine a_d ?_ b_s.out)|exact HB.out)) hb);clear hb hbox hg;obtain ⟨Ao76,co76,eo76⟩:=Kd.a_W b_v.out;subst eo76;have k_d:=b_Z.out;have k_e:=b_y.out;have k_f:=b_0.out;have k_g:=b_C.out;have i_3 : w75.cell? ⟨b_b,0,none⟩ = some (.slice none 0 0):=(a_h b_t.out 0).trans rfl;have i_4:=a_f b_t.out 0))
    go_roundg k1
    case measure => have:=HK1.out;omega
    case rel => exact ⟨(wrap64 (x30_1 + 1)),(x184000_1),(.slice Ao73 x184000_1.length co73),(by first|rfl|(simp;done)|(simp [*];done)),H',⟨by have:=HK1.out;omega⟩,⟨by (with_reducible repeat (first|apply Kd.a_Q|apply Kd.a_M|apply Kd.a_P));exact Kd.a_V (Kd.a_O (p:=⟨b_b,0,none⟩) (Kd.a_R a_C.out b_t.out (by decide)) (fun _ hk => hk.2) (.slice Ao76 t187.length co76)) (fun _ hk => trivial)⟩,⟨by (with_reducible repeat (first|refine a_o ?_ _|refine a_m ?_|refine a_p ?_ _));refine a_v ?_ b_y.out _;(with_reducible repeat (first|refine a_o ?_ _|refine a_m ?_|refine a_p ?_ _));exact a_T.out⟩,⟨by repeat (first|(with_reducible first|exact HB.out|apply a_e|apply a_c|apply a_g|refine a_d ?_ a_8.out|refine a_d ?_ b_s.out|refine a_d ?_ c_L.out)|exact HB.out)⟩⟩
   rw [if_pos c22] at H
   have c22b0 : (t191 == 0) = true:=beq_iff_eq.mpr c22
   have c22b1 : (t191 != 0) = false:=bne_eq_false_iff_eq.mpr c22
   clear c22
   replace H:=Option.bind_eq_some_iff.mp H
   obtain ⟨t193,A230,H⟩:=H
   replace H : (if t193 = true then ((a_A.f k1 t187).bind fun t194 => (if t194 = t184 then (a_l.l0 k1 t184 l1 (l1.length : Int) (wrap64 (x30_1 + 1)) t187) else (some false))) else (some false)) = some r:=H
   have A23:=a_a.mk A230
   clear A230
   by_cases c24 : t193 = true
   rotate_left
   ·replace c24:=Bool.eq_false_iff.mpr c24
    subst c24
    have H1 : (some false) = some r:=by rw [if_neg (show ¬ (false = true) by decide)] at H;exact H
    clear H
    have H:=H1
    clear H1
    obtain rfl:=Option.some.inj H
    have p185 : 0 ≤ (x30_1 : Int):=of_decide_eq_true (by first|(with_reducible assumption)|assumption)
    have q185 : x30_1 < (l1.length : Int):=of_decide_eq_true (by first|(with_reducible assumption)|assumption)
    obtain ⟨ad185,e185,b_h,b_i,b_j,b_k,b_l⟩:=e_d HR1.out x30_1 p185 q185
    cases e185
    replace b_h:=(HB.out.cell (World.block_lt_of_cell? w _ b_h)).trans b_h
    replace b_i:=(HB.out.cell (World.block_lt_of_cell? w _ b_i)).trans b_i
    replace b_j:=(HB.out.cell (World.block_lt_of_cell? w _ b_j)).trans b_j
    replace b_k:=(HB.out.cell (World.block_lt_of_cell? w _ b_k)).trans b_k
    replace b_l:=(HB.out.cell (World.block_lt_of_cell? w _ b_l)).trans b_l
    replace p185:=eq_true p185
    replace q185:=eq_true q185
    go_wp2_with (first|((with_reducible refine a_u (N:=9) rfl ?_);refine a_t ?hg (N:=9) ?hd (cs:=#[.int .i64 0,.int .i64 0,.int .i64 0,.int .i64 0,.int .u32 0]) (t:=35) ?hr ?_;(case hd => rfl);(case hg => rfl);(case hr => first|(go_simp;done)|(go_simp;rfl));intro a_E hg w57 hbox hb;have a_L:=a_a.mk (hbox);have f_0:=a_a.mk ((by rw [hg];exact (a_r (by repeat (first|(with_reducible first|exact HB.out|apply a_e|apply a_c|apply a_g|refine a_d ?_ a_8.out)|exact HB.out))) : w.heap.size ≤ a_E));have b_s:=a_a.mk ((by rw [hg];exact (a_r (by repeat (first|(with_reducible first|exact HB.out|apply a_e|apply a_c|apply a_g|refine a_d ?_ a_8.out)|exact HB.out))) : w.heap.size ≤ a_E));have a_S:=a_a.mk ((by rw [hg];exact Nat.ne_of_lt (a_k (bup_ a_T.out)) : b_e ≠ a_E));have b_K:=a_a.mk ((by rw [hg];exact Nat.ne_of_gt (a_k (bup_ a_T.out)) : a_E ≠ b_e));replace a_C:=a_a.mk (Kd.a_G (rup_ a_C.out) hb);replace a_T:=a_a.mk (a_b (bup_ a_T.out) hb);replace HB:=a_a.mk (a_i (by repeat (first|(with_reducible first|exact HB.out|apply a_e|apply a_c|apply a_g|refine a_d ?_ a_8.out)|exact HB.out)) hb);clear hb hbox hg;have k_h:=b_K.out;have k_i:=a_S.out;have i_5 : w57.cell? ⟨a_E,0,none⟩ = some (.int .i64 0):=(a_h a_L.out 0).trans rfl;have i_6 : w57.cell? ⟨a_E,1,none⟩ = some (.int .i64 0):=(a_h a_L.out 1).trans rfl;have i_7 : w57.cell? ⟨a_E,2,none⟩ = some (.int .i64 0):=(a_h a_L.out 2).trans rfl;have i_8 : w57.cell? ⟨a_E,3,none⟩ = some (.int .i64 0):=(a_h a_L.out 3).trans rfl;have i_9 : w57.cell? ⟨a_E,4,none⟩ = some (.int .u32 0):=(a_h a_L.out 4).trans rfl;have j_a:=a_f a_L.out 0;have j_b:=a_f a_L.out 1;have j_c:=a_f a_L.out 2;have j_d:=a_f a_L.out 3;have j_e:=a_f a_L.out 4;have j_f : w57.cell? ⟨b_e,0,none⟩ = some (u184000):=(a_h a_T.out 0).trans rfl;have j_g:=a_f a_T.out 0;obtain ⟨Ao61,co61,eo61⟩:=Kd.a_W a_C.out;subst eo61)|((with_reducible refine a_x (f:=7) rfl ?_);refine a_Y (some 40) rfl rfl Tryd.func7 (by kernel_rfl) rfl #[.agg #[.int .i64 ((a_s l1 x30_1).f0),.int .i64 ((a_s l1 x30_1).f1),.int .i64 ((a_s l1 x30_1).f2),.int .i64 ((a_s l1 x30_1).f3),.int .u32 ((a_s l1 x30_1).f4)],.agg #[.slice Ao61 x184000_1.length co61]] rfl (by (try simp only [List.map_toArray,List.map_cons,List.map_nil]);first|done|rfl|(simp only [List.length_drop,List.length_take];rfl)) ?_;(with_reducible refine (a_q.calls k1 ((a_s l1 x30_1).f0) ((a_s l1 x30_1).f1) ((a_s l1 x30_1).f2) ((a_s l1 x30_1).f3) ((a_s l1 x30_1).f4) _ _ x184000_1 t187 t190 t191 _ ?side1 ?side2 A21.out).mono ?_);(case side1 => refine (Kd.a_B (e:=32) (base:=w.heap.size) (ok:=fun k_ => True) (n:=x184000_1.length) (c:=co61) ?_).2.2;exact (by (with_reducible repeat (first|apply Kd.a_Q|apply Kd.a_M|apply Kd.a_P));exact (Kd.a_V (Kd.a_O (p:=⟨a_E,4,none⟩) (Kd.a_O (p:=⟨a_E,3,none⟩) (Kd.a_O (p:=⟨a_E,2,none⟩) (Kd.a_O (p:=⟨a_E,1,none⟩) (Kd.a_O (p:=⟨a_E,0,none⟩) (Kd.a_R a_C.out a_L.out (by decide)) (fun _ hk => hk.2) (.int .i64 ((a_s l1 x30_1).f0))) (fun _ hk => hk.2) (.int .i64 ((a_s l1 x30_1).f1))) (fun _ hk => hk.2) (.int .i64 ((a_s l1 x30_1).f2))) (fun _ hk => hk.2) (.int .i64 ((a_s l1 x30_1).f3))) (fun _ hk => hk.2) (.int .u32 ((a_s l1 x30_1).f4))) (fun _ h_ => h_.1))));(case side2 => exact (Kd.a_B a_C.out).2.1);rintro e w62 ⟨v188,rfl,ho0,hb⟩;refine ⟨_,rfl,?_⟩;have b_v:=a_a.mk (Kd.a_0 (Kd.c_D ho0 (Kd.R_lt (by (with_reducible repeat (first|apply Kd.a_Q|apply Kd.a_M|apply Kd.a_P));exact (Kd.a_V (Kd.a_O (p:=⟨a_E,4,none⟩) (Kd.a_O (p:=⟨a_E,3,none⟩) (Kd.a_O (p:=⟨a_E,2,none⟩) (Kd.a_O (p:=⟨a_E,1,none⟩) (Kd.a_O (p:=⟨a_E,0,none⟩) (Kd.a_R a_C.out a_L.out (by decide)) (fun _ hk => hk.2) (.int .i64 ((a_s l1 x30_1).f0))) (fun _ hk => hk.2) (.int .i64 ((a_s l1 x30_1).f1))) (fun _ hk => hk.2) (.int .i64 ((a_s l1 x30_1).f2))) (fun _ hk => hk.2) (.int .i64 ((a_s l1 x30_1).f3))) (fun _ hk => hk.2) (.int .u32 ((a_s l1 x30_1).f4))) (fun _ h_ => h_.1))))) (a_r (by repeat (first|(with_reducible first|exact HB.out|apply a_e|apply a_c|apply a_g|refine a_d ?_ a_8.out|refine a_d ?_ b_s.out)|exact HB.out))));replace a_C:=a_a.mk (Kd.b_P (by (with_reducible repeat (first|apply Kd.a_Q|apply Kd.a_M|apply Kd.a_P));exact (Kd.a_V (Kd.a_O (p:=⟨a_E,4,none⟩) (Kd.a_O (p:=⟨a_E,3,none⟩) (Kd.a_O (p:=⟨a_E,2,none⟩) (Kd.a_O (p:=⟨a_E,1,none⟩) (Kd.a_O (p:=⟨a_E,0,none⟩) (Kd.a_R a_C.out a_L.out (by decide)) (fun _ hk => hk.2) (.int .i64 ((a_s l1 x30_1).f0))) (fun _ hk => hk.2) (.int .i64 ((a_s l1 x30_1).f1))) (fun _ hk => hk.2) (.int .i64 ((a_s l1 x30_1).f2))) (fun _ hk => hk.2) (.int .i64 ((a_s l1 x30_1).f3))) (fun _ hk => hk.2) (.int .u32 ((a_s l1 x30_1).f4))) (fun _ h_ => h_.1))) (Kd.b_6 ho0) hb);replace a_T:=a_a.mk (a_b (g:=b_e) (o:=.cells #[.slice Ao61 x184000_1.length co61] 26 (0,0)) (by (with_reducible repeat (first|refine a_o ?_ _|refine a_m ?_|refine a_p ?_ _));refine a_v ?_ a_S.out _;(with_reducible repeat (first|refine a_o ?_ _|refine a_m ?_|refine a_p ?_ _));refine a_v ?_ a_S.out _;(with_reducible repeat (first|refine a_o ?_ _|refine a_m ?_|refine a_p ?_ _));refine a_v ?_ a_S.out _;(with_reducible repeat (first|refine a_o ?_ _|refine a_m ?_|refine a_p ?_ _));refine a_v ?_ a_S.out _;(with_reducible repeat (first|refine a_o ?_ _|refine a_m ?_|refine a_p ?_ _));refine a_v ?_ a_S.out _;(with_reducible repeat (first|refine a_o ?_ _|refine a_m ?_|refine a_p ?_ _));exact a_T.out) hb);replace a_L:=a_a.mk (a_b (g:=a_E) (o:=.cells #[.int .i64 ((a_s l1 x30_1).f0),.int .i64 ((a_s l1 x30_1).f1),.int .i64 ((a_s l1 x30_1).f2),.int .i64 ((a_s l1 x30_1).f3),.int .u32 ((a_s l1 x30_1).f4)] 35 (0,0)) (by (with_reducible repeat (first|refine a_o ?_ _|refine a_m ?_|refine a_p ?_ _));refine a_D (cs:=#[.int .i64 ((a_s l1 x30_1).f0),.int .i64 ((a_s l1 x30_1).f1),.int .i64 ((a_s l1 x30_1).f2),.int .i64 ((a_s l1 x30_1).f3),.int .u32 0]) ?_ 4 _ rfl;(with_reducible repeat (first|refine a_o ?_ _|refine a_m ?_|refine a_p ?_ _));refine a_D (cs:=#[.int .i64 ((a_s l1 x30_1).f0),.int .i64 ((a_s l1 x30_1).f1),.int .i64 ((a_s l1 x30_1).f2),.int .i64 0,.int .u32 0]) ?_ 3 _ rfl;(with_reducible repeat (first|refine a_o ?_ _|refine a_m ?_|refine a_p ?_ _));refine a_D (cs:=#[.int .i64 ((a_s l1 x30_1).f0),.int .i64 ((a_s l1 x30_1).f1),.int .i64 0,.int .i64 0,.int .u32 0]) ?_ 2 _ rfl;(with_reducible repeat (first|refine a_o ?_ _|refine a_m ?_|refine a_p ?_ _));refine a_D (cs:=#[.int .i64 ((a_s l1 x30_1).f0),.int .i64 0,.int .i64 0,.int .i64 0,.int .u32 0]) ?_ 1 _ rfl;(with_reducible repeat (first|refine a_o ?_ _|refine a_m ?_|refine a_p ?_ _));refine a_D (cs:=#[.int .i64 0,.int .i64 0,.int .i64 0,.int .i64 0,.int .u32 0]) ?_ 0 _ rfl;(with_reducible repeat (first|refine a_o ?_ _|refine a_m ?_|refine a_p ?_ _));exact a_L.out) hb);replace HB:=a_a.mk (a_i (by repeat (first|(with_reducible first|exact HB.out|apply a_e|apply a_c|apply a_g|refine a_d ?_ a_8.out|refine a_d ?_ b_s.out)|exact HB.out)) hb);(try clear hb);(try clear hb2);(try clear hk);(try clear hi);(try clear ho0))|((with_reducible refine a_u (N:=10) rfl ?_);refine a_t ?hg (N:=10) ?hd (cs:=#[.slice none 0 0]) (t:=26) ?hr ?_;(case hd => rfl);(case hg => rfl);(case hr => first|(go_simp;done)|(go_simp;rfl));intro b_b hg w63 hbox hb;have b_t:=a_a.mk (hbox);have g_E:=a_a.mk ((by rw [hg];exact (a_r (by repeat (first|(with_reducible first|exact HB.out|apply a_e|apply a_c|apply a_g|refine a_d ?_ a_8.out|refine a_d ?_ b_s.out)|exact HB.out))) : w.heap.size ≤ b_b));have c_L:=a_a.mk ((by rw [hg];exact (a_r (by repeat (first|(with_reducible first|exact HB.out|apply a_e|apply a_c|apply a_g|refine a_d ?_ a_8.out|refine a_d ?_ b_s.out)|exact HB.out))) : w.heap.size ≤ b_b));have b_y:=a_a.mk ((by rw [hg];exact Nat.ne_of_lt (a_k (bup_ a_T.out)) : b_e ≠ b_b));have b_Z:=a_a.mk ((by rw [hg];exact Nat.ne_of_gt (a_k (bup_ a_T.out)) : b_b ≠ b_e));have b_C:=a_a.mk ((by rw [hg];exact Nat.ne_of_lt (a_k (bup_ a_L.out)) : a_E ≠ b_b));have b_0:=a_a.mk ((by rw [hg];exact Nat.ne_of_gt (a_k (bup_ a_L.out)) : b_b ≠ a_E));replace a_C:=a_a.mk (Kd.a_G (rup_ a_C.out) hb);replace b_v:=a_a.mk (Kd.a_G (rup_ b_v.out) hb);replace a_T:=a_a.mk (a_b (bup_ a_T.out) hb);replace a_L:=a_a.mk (a_b (bup_ a_L.out) hb);replace HB:=a_a.mk (a_i (by repeat (first|(with_reducible first|exact HB.out|apply a_e|apply a_c|apply a_g|refine a_d ?_ a_8.out|refine a_d ?_ b_s.out)|exact HB.out)) hb);clear hb hbox hg;obtain ⟨Ao64,co64,eo64⟩:=Kd.a_W b_v.out;subst eo64;have k_j:=b_Z.out;have k_k:=b_y.out;have k_l:=b_0.out;have k_m:=b_C.out;have j_h : w63.cell? ⟨b_b,0,none⟩ = some (.slice none 0 0):=(a_h b_t.out 0).trans rfl;have j_i:=a_f b_t.out 0)|((with_reducible refine a_x (f:=8) rfl ?_);refine a_Y (some 47) rfl rfl Tryd.func8 (by kernel_rfl) rfl #[.agg #[.slice Ao64 t187.length co64]] rfl (by (try simp only [List.map_toArray,List.map_cons,List.map_nil]);first|done|rfl|(simp only [List.length_drop,List.length_take];rfl)) ?_;(with_reducible refine (a_j.calls k1 _ _ t187 false _ ?side1 ?side2 ?side3 A23.out).mono ?_);(case side1 => refine (Kd.a_B (e:=32) (base:=w.heap.size) (ok:=fun k_ => (True ∧ some k_ ≠ (.slice Ao61 x184000_1.length co61 : Value).ownBlock)) (n:=t187.length) (c:=co64) ?_).2.2;exact (by (with_reducible repeat (first|apply Kd.a_Q|apply Kd.a_M|apply Kd.a_P));exact (Kd.a_V (Kd.a_O (p:=⟨b_b,0,none⟩) (Kd.a_R b_v.out b_t.out (by decide)) (fun _ hk => hk.2) (.slice Ao64 t187.length co64)) (fun _ h_ => h_.1))));(case side2 => exact (Kd.a_B b_v.out).2.1);(case side3 => exact b_Q.below HT_.out (by repeat (first|(with_reducible first|exact HB.out|apply a_e|apply a_c|apply a_g|refine a_d ?_ a_8.out|refine a_d ?_ b_s.out|refine a_d ?_ c_L.out)|exact HB.out)));rintro e w68 ⟨rfl,hb⟩;refine ⟨_,rfl,?_⟩;replace a_C:=a_a.mk (Kd.a_G (by (with_reducible repeat (first|apply Kd.a_Q|apply Kd.a_M|apply Kd.a_P));exact (Kd.a_V (Kd.a_O (p:=⟨b_b,0,none⟩) (Kd.a_R a_C.out b_t.out (by decide)) (fun _ hk => hk.2) (.slice Ao64 t187.length co64)) (fun _ h_ => h_.1))) hb);replace b_v:=a_a.mk (Kd.a_G (by (with_reducible repeat (first|apply Kd.a_Q|apply Kd.a_M|apply Kd.a_P));exact (Kd.a_V (Kd.a_O (p:=⟨b_b,0,none⟩) (Kd.a_R b_v.out b_t.out (by decide)) (fun _ hk => hk.2) (.slice Ao64 t187.length co64)) (fun _ h_ => h_.1))) hb);replace a_T:=a_a.mk (a_b (g:=b_e) (o:=.cells #[.slice Ao61 x184000_1.length co61] 26 (0,0)) (by (with_reducible repeat (first|refine a_o ?_ _|refine a_m ?_|refine a_p ?_ _));refine a_v ?_ b_y.out _;(with_reducible repeat (first|refine a_o ?_ _|refine a_m ?_|refine a_p ?_ _));exact a_T.out) hb);replace a_L:=a_a.mk (a_b (g:=a_E) (o:=.cells #[.int .i64 ((a_s l1 x30_1).f0),.int .i64 ((a_s l1 x30_1).f1),.int .i64 ((a_s l1 x30_1).f2),.int .i64 ((a_s l1 x30_1).f3),.int .u32 ((a_s l1 x30_1).f4)] 35 (0,0)) (by (with_reducible repeat (first|refine a_o ?_ _|refine a_m ?_|refine a_p ?_ _));refine a_v ?_ b_C.out _;(with_reducible repeat (first|refine a_o ?_ _|refine a_m ?_|refine a_p ?_ _));exact a_L.out) hb);replace b_t:=a_a.mk (a_b (g:=b_b) (o:=.cells #[.slice Ao64 t187.length co64] 26 (0,0)) (by (with_reducible repeat (first|refine a_o ?_ _|refine a_m ?_|refine a_p ?_ _));refine a_D (cs:=#[.slice none 0 0]) ?_ 0 _ rfl;(with_reducible repeat (first|refine a_o ?_ _|refine a_m ?_|refine a_p ?_ _));exact b_t.out) hb);replace HB:=a_a.mk (a_i (by repeat (first|(with_reducible first|exact HB.out|apply a_e|apply a_c|apply a_g|refine a_d ?_ a_8.out|refine a_d ?_ b_s.out|refine a_d ?_ c_L.out)|exact HB.out)) hb);(try clear hb);(try clear hb2);(try clear hk);(try clear hi)))
    go_ret
    exact ⟨by first|rfl|(simp [a_y,a_z] <;> rfl)|(simp [*, a_y,a_z] <;> rfl),by repeat (first|(with_reducible first|exact HB.out|apply a_e|apply a_c|apply a_g|refine a_d ?_ a_8.out|refine a_d ?_ b_s.out|refine a_d ?_ c_L.out)|exact HB.out)⟩
   subst c24
   have H1 : ((a_A.f k1 t187).bind fun t194 => (if t194 = t184 then (a_l.l0 k1 t184 l1 (l1.length : Int) (wrap64 (x30_1 + 1)) t187) else (some false))) = some r:=by rw [if_pos rfl] at H;exact H
   clear H
   have H:=H1
   clear H1
   replace H:=Option.bind_eq_some_iff.mp H
   obtain ⟨t194,A250,H⟩:=H
   replace H : (if t194 = t184 then (a_l.l0 k1 t184 l1 (l1.length : Int) (wrap64 (x30_1 + 1)) t187) else (some false)) = some r:=H
   have A25:=a_a.mk A250
   clear A250
   by_cases c26 : t194 = t184
   rotate_left
   ·rw [if_neg c26] at H
    have c26b0 : (t194 == t184) = false:=beq_eq_false_iff_ne.mpr c26
    have c26b1 : (t194 != t184) = true:=bne_iff_ne.mpr c26
    obtain rfl:=Option.some.inj H
    have p185 : 0 ≤ (x30_1 : Int):=of_decide_eq_true (by first|(with_reducible assumption)|assumption)
    have q185 : x30_1 < (l1.length : Int):=of_decide_eq_true (by first|(with_reducible assumption)|assumption)
    obtain ⟨ad185,e185,b_h,b_i,b_j,b_k,b_l⟩:=e_d HR1.out x30_1 p185 q185
    cases e185
    replace b_h:=(HB.out.cell (World.block_lt_of_cell? w _ b_h)).trans b_h
    replace b_i:=(HB.out.cell (World.block_lt_of_cell? w _ b_i)).trans b_i
    replace b_j:=(HB.out.cell (World.block_lt_of_cell? w _ b_j)).trans b_j
    replace b_k:=(HB.out.cell (World.block_lt_of_cell? w _ b_k)).trans b_k
    replace b_l:=(HB.out.cell (World.block_lt_of_cell? w _ b_l)).trans b_l
    replace p185:=eq_true p185
    replace q185:=eq_true q185
    go_wp2_with (first|((with_reducible refine a_u (N:=9) rfl ?_);refine a_t ?hg (N:=9) ?hd (cs:=#[.int .i64 0,.int .i64 0,.int .i64 0,.int .i64 0,.int .u32 0]) (t:=35) ?hr ?_;(case hd => rfl);(case hg => rfl);(case hr => first|(go_simp;done)|(go_simp;rfl));intro a_E hg w43 hbox hb;have a_L:=a_a.mk (hbox);have f_0:=a_a.mk ((by rw [hg];exact (a_r (by repeat (first|(with_reducible first|exact HB.out|apply a_e|apply a_c|apply a_g|refine a_d ?_ a_8.out)|exact HB.out))) : w.heap.size ≤ a_E));have b_s:=a_a.mk ((by rw [hg];exact (a_r (by repeat (first|(with_reducible first|exact HB.out|apply a_e|apply a_c|apply a_g|refine a_d ?_ a_8.out)|exact HB.out))) : w.heap.size ≤ a_E));have a_S:=a_a.mk ((by rw [hg];exact Nat.ne_of_lt (a_k (bup_ a_T.out)) : b_e ≠ a_E));have b_K:=a_a.mk ((by rw [hg];exact Nat.ne_of_gt (a_k (bup_ a_T.out)) : a_E ≠ b_e));replace a_C:=a_a.mk (Kd.a_G (rup_ a_C.out) hb);replace a_T:=a_a.mk (a_b (bup_ a_T.out) hb);replace HB:=a_a.mk (a_i (by repeat (first|(with_reducible first|exact HB.out|apply a_e|apply a_c|apply a_g|refine a_d ?_ a_8.out)|exact HB.out)) hb);clear hb hbox hg;have k_n:=b_K.out;have k_o:=a_S.out;have j_j : w43.cell? ⟨a_E,0,none⟩ = some (.int .i64 0):=(a_h a_L.out 0).trans rfl;have j_k : w43.cell? ⟨a_E,1,none⟩ = some (.int .i64 0):=(a_h a_L.out 1).trans rfl;have j_l : w43.cell? ⟨a_E,2,none⟩ = some (.int .i64 0):=(a_h a_L.out 2).trans rfl;have j_m : w43.cell? ⟨a_E,3,none⟩ = some (.int .i64 0):=(a_h a_L.out 3).trans rfl;have j_n : w43.cell? ⟨a_E,4,none⟩ = some (.int .u32 0):=(a_h a_L.out 4).trans rfl;have j_o:=a_f a_L.out 0;have j_p:=a_f a_L.out 1;have j_q:=a_f a_L.out 2;have j_r:=a_f a_L.out 3;have j_s:=a_f a_L.out 4;have j_t : w43.cell? ⟨b_e,0,none⟩ = some (u184000):=(a_h a_T.out 0).trans rfl;have j_u:=a_f a_T.out 0;obtain ⟨Ao47,co47,eo47⟩:=Kd.a_W a_C.out;subst eo47)|((with_reducible refine a_x (f:=7) rfl ?_);refine a_Y (some 40) rfl rfl Tryd.func7 (by kernel_rfl) rfl #[.agg #[.int .i64 ((a_s l1 x30_1).f0),.int .i64 ((a_s l1 x30_1).f1),.int .i64 ((a_s l1 x30_1).f2),.int .i64 ((a_s l1 x30_1).f3),.int .u32 ((a_s l1 x30_1).f4)],.agg #[.slice Ao47 x184000_1.length co47]] rfl (by (try simp only [List.map_toArray,List.map_cons,List.map_nil]);first|done|rfl|(simp only [List.length_drop,List.length_take];rfl)) ?_;(with_reducible refine (a_q.calls k1 ((a_s l1 x30_1).f0) ((a_s l1 x30_1).f1) ((a_s l1 x30_1).f2) ((a_s l1 x30_1).f3) ((a_s l1 x30_1).f4) _ _ x184000_1 t187 t190 t191 _ ?side1 ?side2 A21.out).mono ?_);(case side1 => refine (Kd.a_B (e:=32) (base:=w.heap.size) (ok:=fun k_ => True) (n:=x184000_1.length) (c:=co47) ?_).2.2;exact (by (with_reducible repeat (first|apply Kd.a_Q|apply Kd.a_M|apply Kd.a_P));exact (Kd.a_V (Kd.a_O (p:=⟨a_E,4,none⟩) (Kd.a_O (p:=⟨a_E,3,none⟩) (Kd.a_O (p:=⟨a_E,2,none⟩) (Kd.a_O (p:=⟨a_E,1,none⟩) (Kd.a_O (p:=⟨a_E,0,none⟩) (Kd.a_R a_C.out a_L.out (by decide)) (fun _ hk => hk.2) (.int .i64 ((a_s l1 x30_1).f0))) (fun _ hk => hk.2) (.int .i64 ((a_s l1 x30_1).f1))) (fun _ hk => hk.2) (.int .i64 ((a_s l1 x30_1).f2))) (fun _ hk => hk.2) (.int .i64 ((a_s l1 x30_1).f3))) (fun _ hk => hk.2) (.int .u32 ((a_s l1 x30_1).f4))) (fun _ h_ => h_.1))));(case side2 => exact (Kd.a_B a_C.out).2.1);rintro e w48 ⟨v188,rfl,ho0,hb⟩;refine ⟨_,rfl,?_⟩;have b_v:=a_a.mk (Kd.a_0 (Kd.c_D ho0 (Kd.R_lt (by (with_reducible repeat (first|apply Kd.a_Q|apply Kd.a_M|apply Kd.a_P));exact (Kd.a_V (Kd.a_O (p:=⟨a_E,4,none⟩) (Kd.a_O (p:=⟨a_E,3,none⟩) (Kd.a_O (p:=⟨a_E,2,none⟩) (Kd.a_O (p:=⟨a_E,1,none⟩) (Kd.a_O (p:=⟨a_E,0,none⟩) (Kd.a_R a_C.out a_L.out (by decide)) (fun _ hk => hk.2) (.int .i64 ((a_s l1 x30_1).f0))) (fun _ hk => hk.2) (.int .i64 ((a_s l1 x30_1).f1))) (fun _ hk => hk.2) (.int .i64 ((a_s l1 x30_1).f2))) (fun _ hk => hk.2) (.int .i64 ((a_s l1 x30_1).f3))) (fun _ hk => hk.2) (.int .u32 ((a_s l1 x30_1).f4))) (fun _ h_ => h_.1))))) (a_r (by repeat (first|(with_reducible first|exact HB.out|apply a_e|apply a_c|apply a_g|refine a_d ?_ a_8.out|refine a_d ?_ b_s.out)|exact HB.out))));replace a_C:=a_a.mk (Kd.b_P (by (with_reducible repeat (first|apply Kd.a_Q|apply Kd.a_M|apply Kd.a_P));exact (Kd.a_V (Kd.a_O (p:=⟨a_E,4,none⟩) (Kd.a_O (p:=⟨a_E,3,none⟩) (Kd.a_O (p:=⟨a_E,2,none⟩) (Kd.a_O (p:=⟨a_E,1,none⟩) (Kd.a_O (p:=⟨a_E,0,none⟩) (Kd.a_R a_C.out a_L.out (by decide)) (fun _ hk => hk.2) (.int .i64 ((a_s l1 x30_1).f0))) (fun _ hk => hk.2) (.int .i64 ((a_s l1 x30_1).f1))) (fun _ hk => hk.2) (.int .i64 ((a_s l1 x30_1).f2))) (fun _ hk => hk.2) (.int .i64 ((a_s l1 x30_1).f3))) (fun _ hk => hk.2) (.int .u32 ((a_s l1 x30_1).f4))) (fun _ h_ => h_.1))) (Kd.b_6 ho0) hb);replace a_T:=a_a.mk (a_b (g:=b_e) (o:=.cells #[.slice Ao47 x184000_1.length co47] 26 (0,0)) (by (with_reducible repeat (first|refine a_o ?_ _|refine a_m ?_|refine a_p ?_ _));refine a_v ?_ a_S.out _;(with_reducible repeat (first|refine a_o ?_ _|refine a_m ?_|refine a_p ?_ _));refine a_v ?_ a_S.out _;(with_reducible repeat (first|refine a_o ?_ _|refine a_m ?_|refine a_p ?_ _));refine a_v ?_ a_S.out _;(with_reducible repeat (first|refine a_o ?_ _|refine a_m ?_|refine a_p ?_ _));refine a_v ?_ a_S.out _;(with_reducible repeat (first|refine a_o ?_ _|refine a_m ?_|refine a_p ?_ _));refine a_v ?_ a_S.out _;(with_reducible repeat (first|refine a_o ?_ _|refine a_m ?_|refine a_p ?_ _));exact a_T.out) hb);replace a_L:=a_a.mk (a_b (g:=a_E) (o:=.cells #[.int .i64 ((a_s l1 x30_1).f0),.int .i64 ((a_s l1 x30_1).f1),.int .i64 ((a_s l1 x30_1).f2),.int .i64 ((a_s l1 x30_1).f3),.int .u32 ((a_s l1 x30_1).f4)] 35 (0,0)) (by (with_reducible repeat (first|refine a_o ?_ _|refine a_m ?_|refine a_p ?_ _));refine a_D (cs:=#[.int .i64 ((a_s l1 x30_1).f0),.int .i64 ((a_s l1 x30_1).f1),.int .i64 ((a_s l1 x30_1).f2),.int .i64 ((a_s l1 x30_1).f3),.int .u32 0]) ?_ 4 _ rfl;(with_reducible repeat (first|refine a_o ?_ _|refine a_m ?_|refine a_p ?_ _));refine a_D (cs:=#[.int .i64 ((a_s l1 x30_1).f0),.int .i64 ((a_s l1 x30_1).f1),.int .i64 ((a_s l1 x30_1).f2),.int .i64 0,.int .u32 0]) ?_ 3 _ rfl;(with_reducible repeat (first|refine a_o ?_ _|refine a_m ?_|refine a_p ?_ _));refine a_D (cs:=#[.int .i64 ((a_s l1 x30_1).f0),.int .i64 ((a_s l1 x30_1).f1),.int .i64 0,.int .i64 0,.int .u32 0]) ?_ 2 _ rfl;(with_reducible repeat (first|refine a_o ?_ _|refine a_m ?_|refine a_p ?_ _));refine a_D (cs:=#[.int .i64 ((a_s l1 x30_1).f0),.int .i64 0,.int .i64 0,.int .i64 0,.int .u32 0]) ?_ 1 _ rfl;(with_reducible repeat (first|refine a_o ?_ _|refine a_m ?_|refine a_p ?_ _));refine a_D (cs:=#[.int .i64 0,.int .i64 0,.int .i64 0,.int .i64 0,.int .u32 0]) ?_ 0 _ rfl;(with_reducible repeat (first|refine a_o ?_ _|refine a_m ?_|refine a_p ?_ _));exact a_L.out) hb);replace HB:=a_a.mk (a_i (by repeat (first|(with_reducible first|exact HB.out|apply a_e|apply a_c|apply a_g|refine a_d ?_ a_8.out|refine a_d ?_ b_s.out)|exact HB.out)) hb);(try clear hb);(try clear hb2);(try clear hk);(try clear hi);(try clear ho0))|((with_reducible refine a_u (N:=10) rfl ?_);refine a_t ?hg (N:=10) ?hd (cs:=#[.slice none 0 0]) (t:=26) ?hr ?_;(case hd => rfl);(case hg => rfl);(case hr => first|(go_simp;done)|(go_simp;rfl));intro b_b hg w49 hbox hb;have b_t:=a_a.mk (hbox);have g_E:=a_a.mk ((by rw [hg];exact (a_r (by repeat (first|(with_reducible first|exact HB.out|apply a_e|apply a_c|apply a_g|refine a_d ?_ a_8.out|refine a_d ?_ b_s.out)|exact HB.out))) : w.heap.size ≤ b_b));have c_L:=a_a.mk ((by rw [hg];exact (a_r (by repeat (first|(with_reducible first|exact HB.out|apply a_e|apply a_c|apply a_g|refine a_d ?_ a_8.out|refine a_d ?_ b_s.out)|exact HB.out))) : w.heap.size ≤ b_b));have b_y:=a_a.mk ((by rw [hg];exact Nat.ne_of_lt (a_k (bup_ a_T.out)) : b_e ≠ b_b));have b_Z:=a_a.mk ((by rw [hg];exact Nat.ne_of_gt (a_k (bup_ a_T.out)) : b_b ≠ b_e));have b_C:=a_a.mk ((by rw [hg];exact Nat.ne_of_lt (a_k (bup_ a_L.out)) : a_E ≠ b_b));have b_0:=a_a.mk ((by rw [hg];exact Nat.ne_of_gt (a_k (bup_ a_L.out)) : b_b ≠ a_E));replace a_C:=a_a.mk (Kd.a_G (rup_ a_C.out) hb);replace b_v:=a_a.mk (Kd.a_G (rup_ b_v.out) hb);replace a_T:=a_a.mk (a_b (bup_ a_T.out) hb);replace a_L:=a_a.mk (a_b (bup_ a_L.out) hb);replace HB:=a_a.mk (a_i (by repeat (first|(with_reducible first|exact HB.out|apply a_e|apply a_c|apply a_g|refine a_d ?_ a_8.out|refine a_d ?_ b_s.out)|exact HB.out)) hb);clear hb hbox hg;obtain ⟨Ao50,co50,eo50⟩:=Kd.a_W b_v.out;subst eo50;have k_p:=b_Z.out;have k_q:=b_y.out;have k_r:=b_0.out;have k_s:=b_C.out;have j_v : w49.cell? ⟨b_b,0,none⟩ = some (.slice none 0 0):=(a_h b_t.out 0).trans rfl;have j_w:=a_f b_t.out 0)|((with_reducible refine a_x (f:=8) rfl ?_);refine a_Y (some 47) rfl rfl Tryd.func8 (by kernel_rfl) rfl #[.agg #[.slice Ao50 t187.length co50]] rfl (by (try simp only [List.map_toArray,List.map_cons,List.map_nil]);first|done|rfl|(simp only [List.length_drop,List.length_take];rfl)) ?_;(with_reducible refine (a_j.calls k1 _ _ t187 true _ ?side1 ?side2 ?side3 A23.out).mono ?_);(case side1 => refine (Kd.a_B (e:=32) (base:=w.heap.size) (ok:=fun k_ => (True ∧ some k_ ≠ (.slice Ao47 x184000_1.length co47 : Value).ownBlock)) (n:=t187.length) (c:=co50) ?_).2.2;exact (by (with_reducible repeat (first|apply Kd.a_Q|apply Kd.a_M|apply Kd.a_P));exact (Kd.a_V (Kd.a_O (p:=⟨b_b,0,none⟩) (Kd.a_R b_v.out b_t.out (by decide)) (fun _ hk => hk.2) (.slice Ao50 t187.length co50)) (fun _ h_ => h_.1))));(case side2 => exact (Kd.a_B b_v.out).2.1);(case side3 => exact b_Q.below HT_.out (by repeat (first|(with_reducible first|exact HB.out|apply a_e|apply a_c|apply a_g|refine a_d ?_ a_8.out|refine a_d ?_ b_s.out|refine a_d ?_ c_L.out)|exact HB.out)));rintro e w54 ⟨rfl,hb⟩;refine ⟨_,rfl,?_⟩;replace a_C:=a_a.mk (Kd.a_G (by (with_reducible repeat (first|apply Kd.a_Q|apply Kd.a_M|apply Kd.a_P));exact (Kd.a_V (Kd.a_O (p:=⟨b_b,0,none⟩) (Kd.a_R a_C.out b_t.out (by decide)) (fun _ hk => hk.2) (.slice Ao50 t187.length co50)) (fun _ h_ => h_.1))) hb);replace b_v:=a_a.mk (Kd.a_G (by (with_reducible repeat (first|apply Kd.a_Q|apply Kd.a_M|apply Kd.a_P));exact (Kd.a_V (Kd.a_O (p:=⟨b_b,0,none⟩) (Kd.a_R b_v.out b_t.out (by decide)) (fun _ hk => hk.2) (.slice Ao50 t187.length co50)) (fun _ h_ => h_.1))) hb);replace a_T:=a_a.mk (a_b (g:=b_e) (o:=.cells #[.slice Ao47 x184000_1.length co47] 26 (0,0)) (by (with_reducible repeat (first|refine a_o ?_ _|refine a_m ?_|refine a_p ?_ _));refine a_v ?_ b_y.out _;(with_reducible repeat (first|refine a_o ?_ _|refine a_m ?_|refine a_p ?_ _));exact a_T.out) hb);replace a_L:=a_a.mk (a_b (g:=a_E) (o:=.cells #[.int .i64 ((a_s l1 x30_1).f0),.int .i64 ((a_s l1 x30_1).f1),.int .i64 ((a_s l1 x30_1).f2),.int .i64 ((a_s l1 x30_1).f3),.int .u32 ((a_s l1 x30_1).f4)] 35 (0,0)) (by (with_reducible repeat (first|refine a_o ?_ _|refine a_m ?_|refine a_p ?_ _));refine a_v ?_ b_C.out _;(with_reducible repeat (first|refine a_o ?_ _|refine a_m ?_|refine a_p ?_ _));exact a_L.out) hb);replace b_t:=a_a.mk (a_b (g:=b_b) (o:=.cells #[.slice Ao50 t187.length co50] 26 (0,0)) (by (with_reducible repeat (first|refine a_o ?_ _|refine a_m ?_|refine a_p ?_ _));refine a_D (cs:=#[.slice none 0 0]) ?_ 0 _ rfl;(with_reducible repeat (first|refine a_o ?_ _|refine a_m ?_|refine a_p ?_ _));exact b_t.out) hb);replace HB:=a_a.mk (a_i (by repeat (first|(with_reducible first|exact HB.out|apply a_e|apply a_c|apply a_g|refine a_d ?_ a_8.out|refine a_d ?_ b_s.out|refine a_d ?_ c_L.out)|exact HB.out)) hb);(try clear hb);(try clear hb2);(try clear hk);(try clear hi);have j_x : w54.cell? ⟨b_b,0,none⟩ = some (.slice Ao50 t187.length co50):=(a_h b_t.out 0).trans rfl;have j_y:=a_f b_t.out 0)|(go_at_call 6;(with_reducible refine (a_A.calls k1 _ _ t187 t194 _ ?side1 ?side2 A25.out).mono ?_);(case side1 => repeat (first|exact (Kd.a_B b_v.out).2.2|(with_reducible refine Kd.a_4 ?_ _)|(with_reducible refine Kd.a_6 ?_ _)|(with_reducible refine Kd.b_a ?_)));(case side2 => exact (Kd.a_B b_v.out).2.1);rintro e w56 ⟨rfl,hb⟩;replace a_C:=a_a.mk (Kd.a_G (rup_ a_C.out) hb);replace b_v:=a_a.mk (Kd.a_G (rup_ b_v.out) hb);replace a_T:=a_a.mk (a_b (bup_ a_T.out) hb);replace a_L:=a_a.mk (a_b (bup_ a_L.out) hb);replace b_t:=a_a.mk (a_b (bup_ b_t.out) hb);replace HB:=a_a.mk (a_i (by repeat (first|(with_reducible first|exact HB.out|apply a_e|apply a_c|apply a_g|refine a_d ?_ a_8.out|refine a_d ?_ b_s.out|refine a_d ?_ c_L.out)|exact HB.out)) hb);(try clear hb);(try clear hb2);(try clear hk);(try clear hi)))
    go_ret
    exact ⟨by first|rfl|(simp [a_y,a_z] <;> rfl)|(simp [*, a_y,a_z] <;> rfl),by repeat (first|(with_reducible first|exact HB.out|apply a_e|apply a_c|apply a_g|refine a_d ?_ a_8.out|refine a_d ?_ b_s.out|refine a_d ?_ c_L.out)|exact HB.out)⟩
   rw [if_pos c26] at H
   have c26b0 : (t194 == t184) = true:=beq_iff_eq.mpr c26
   have c26b1 : (t194 != t184) = false:=bne_eq_false_iff_eq.mpr c26
   clear c26
   have H':=a_a.mk H
   clear H
   have p185 : 0 ≤ (x30_1 : Int):=of_decide_eq_true (by first|(with_reducible assumption)|assumption)
   have q185 : x30_1 < (l1.length : Int):=of_decide_eq_true (by first|(with_reducible assumption)|assumption)
   obtain ⟨ad185,e185,b_h,b_i,b_j,b_k,b_l⟩:=e_d HR1.out x30_1 p185 q185
   cases e185
   replace b_h:=(HB.out.cell (World.block_lt_of_cell? w _ b_h)).trans b_h
   replace b_i:=(HB.out.cell (World.block_lt_of_cell? w _ b_i)).trans b_i
   replace b_j:=(HB.out.cell (World.block_lt_of_cell? w _ b_j)).trans b_j
   replace b_k:=(HB.out.cell (World.block_lt_of_cell? w _ b_k)).trans b_k
   replace b_l:=(HB.out.cell (World.block_lt_of_cell? w _ b_l)).trans b_l
   replace p185:=eq_true p185
   replace q185:=eq_true q185
   go_wp2_with (first|((with_reducible refine a_u (N:=9) rfl ?_);refine a_t ?hg (N:=9) ?hd (cs:=#[.int .i64 0,.int .i64 0,.int .i64 0,.int .i64 0,.int .u32 0]) (t:=35) ?hr ?_;(case hd => rfl);(case hg => rfl);(case hr => first|(go_simp;done)|(go_simp;rfl));intro a_E hg w27 hbox hb;have a_L:=a_a.mk (hbox);have f_0:=a_a.mk ((by rw [hg];exact (a_r (by repeat (first|(with_reducible first|exact HB.out|apply a_e|apply a_c|apply a_g|refine a_d ?_ a_8.out)|exact HB.out))) : w.heap.size ≤ a_E));have b_s:=a_a.mk ((by rw [hg];exact (a_r (by repeat (first|(with_reducible first|exact HB.out|apply a_e|apply a_c|apply a_g|refine a_d ?_ a_8.out)|exact HB.out))) : w.heap.size ≤ a_E));have a_S:=a_a.mk ((by rw [hg];exact Nat.ne_of_lt (a_k (bup_ a_T.out)) : b_e ≠ a_E));have b_K:=a_a.mk ((by rw [hg];exact Nat.ne_of_gt (a_k (bup_ a_T.out)) : a_E ≠ b_e));replace a_C:=a_a.mk (Kd.a_G (rup_ a_C.out) hb);replace a_T:=a_a.mk (a_b (bup_ a_T.out) hb);replace HB:=a_a.mk (a_i (by repeat (first|(with_reducible first|exact HB.out|apply a_e|apply a_c|apply a_g|refine a_d ?_ a_8.out)|exact HB.out)) hb);clear hb hbox hg;have k_t:=b_K.out;have k_u:=a_S.out;have g_C : w27.cell? ⟨a_E,0,none⟩ = some (.int .i64 0):=(a_h a_L.out 0).trans rfl;have j_z : w27.cell? ⟨a_E,1,none⟩ = some (.int .i64 0):=(a_h a_L.out 1).trans rfl;have j_A : w27.cell? ⟨a_E,2,none⟩ = some (.int .i64 0):=(a_h a_L.out 2).trans rfl;have j_B : w27.cell? ⟨a_E,3,none⟩ = some (.int .i64 0):=(a_h a_L.out 3).trans rfl;have j_C : w27.cell? ⟨a_E,4,none⟩ = some (.int .u32 0):=(a_h a_L.out 4).trans rfl;have g_D:=a_f a_L.out 0;have j_D:=a_f a_L.out 1;have j_E:=a_f a_L.out 2;have j_F:=a_f a_L.out 3;have j_G:=a_f a_L.out 4;have g_y : w27.cell? ⟨b_e,0,none⟩ = some (u184000):=(a_h a_T.out 0).trans rfl;have g_z:=a_f a_T.out 0;obtain ⟨Ao31,co31,eo31⟩:=Kd.a_W a_C.out;subst eo31)|((with_reducible refine a_x (f:=7) rfl ?_);refine a_Y (some 40) rfl rfl Tryd.func7 (by kernel_rfl) rfl #[.agg #[.int .i64 ((a_s l1 x30_1).f0),.int .i64 ((a_s l1 x30_1).f1),.int .i64 ((a_s l1 x30_1).f2),.int .i64 ((a_s l1 x30_1).f3),.int .u32 ((a_s l1 x30_1).f4)],.agg #[.slice Ao31 x184000_1.length co31]] rfl (by (try simp only [List.map_toArray,List.map_cons,List.map_nil]);first|done|rfl|(simp only [List.length_drop,List.length_take];rfl)) ?_;(with_reducible refine (a_q.calls k1 ((a_s l1 x30_1).f0) ((a_s l1 x30_1).f1) ((a_s l1 x30_1).f2) ((a_s l1 x30_1).f3) ((a_s l1 x30_1).f4) _ _ x184000_1 t187 t190 t191 _ ?side1 ?side2 A21.out).mono ?_);(case side1 => refine (Kd.a_B (e:=32) (base:=w.heap.size) (ok:=fun k_ => True) (n:=x184000_1.length) (c:=co31) ?_).2.2;exact (by (with_reducible repeat (first|apply Kd.a_Q|apply Kd.a_M|apply Kd.a_P));exact (Kd.a_V (Kd.a_O (p:=⟨a_E,4,none⟩) (Kd.a_O (p:=⟨a_E,3,none⟩) (Kd.a_O (p:=⟨a_E,2,none⟩) (Kd.a_O (p:=⟨a_E,1,none⟩) (Kd.a_O (p:=⟨a_E,0,none⟩) (Kd.a_R a_C.out a_L.out (by decide)) (fun _ hk => hk.2) (.int .i64 ((a_s l1 x30_1).f0))) (fun _ hk => hk.2) (.int .i64 ((a_s l1 x30_1).f1))) (fun _ hk => hk.2) (.int .i64 ((a_s l1 x30_1).f2))) (fun _ hk => hk.2) (.int .i64 ((a_s l1 x30_1).f3))) (fun _ hk => hk.2) (.int .u32 ((a_s l1 x30_1).f4))) (fun _ h_ => h_.1))));(case side2 => exact (Kd.a_B a_C.out).2.1);rintro e w32 ⟨v188,rfl,ho0,hb⟩;refine ⟨_,rfl,?_⟩;have b_v:=a_a.mk (Kd.a_0 (Kd.c_D ho0 (Kd.R_lt (by (with_reducible repeat (first|apply Kd.a_Q|apply Kd.a_M|apply Kd.a_P));exact (Kd.a_V (Kd.a_O (p:=⟨a_E,4,none⟩) (Kd.a_O (p:=⟨a_E,3,none⟩) (Kd.a_O (p:=⟨a_E,2,none⟩) (Kd.a_O (p:=⟨a_E,1,none⟩) (Kd.a_O (p:=⟨a_E,0,none⟩) (Kd.a_R a_C.out a_L.out (by decide)) (fun _ hk => hk.2) (.int .i64 ((a_s l1 x30_1).f0))) (fun _ hk => hk.2) (.int .i64 ((a_s l1 x30_1).f1))) (fun _ hk => hk.2) (.int .i64 ((a_s l1 x30_1).f2))) (fun _ hk => hk.2) (.int .i64 ((a_s l1 x30_1).f3))) (fun _ hk => hk.2) (.int .u32 ((a_s l1 x30_1).f4))) (fun _ h_ => h_.1))))) (a_r (by repeat (first|(with_reducible first|exact HB.out|apply a_e|apply a_c|apply a_g|refine a_d ?_ a_8.out|refine a_d ?_ b_s.out)|exact HB.out))));replace a_C:=a_a.mk (Kd.b_P (by (with_reducible repeat (first|apply Kd.a_Q|apply Kd.a_M|apply Kd.a_P));exact (Kd.a_V (Kd.a_O (p:=⟨a_E,4,none⟩) (Kd.a_O (p:=⟨a_E,3,none⟩) (Kd.a_O (p:=⟨a_E,2,none⟩) (Kd.a_O (p:=⟨a_E,1,none⟩) (Kd.a_O (p:=⟨a_E,0,none⟩) (Kd.a_R a_C.out a_L.out (by decide)) (fun _ hk => hk.2) (.int .i64 ((a_s l1 x30_1).f0))) (fun _ hk => hk.2) (.int .i64 ((a_s l1 x30_1).f1))) (fun _ hk => hk.2) (.int .i64 ((a_s l1 x30_1).f2))) (fun _ hk => hk.2) (.int .i64 ((a_s l1 x30_1).f3))) (fun _ hk => hk.2) (.int .u32 ((a_s l1 x30_1).f4))) (fun _ h_ => h_.1))) (Kd.b_6 ho0) hb);replace a_T:=a_a.mk (a_b (g:=b_e) (o:=.cells #[.slice Ao31 x184000_1.length co31] 26 (0,0)) (by (with_reducible repeat (first|refine a_o ?_ _|refine a_m ?_|refine a_p ?_ _));refine a_v ?_ a_S.out _;(with_reducible repeat (first|refine a_o ?_ _|refine a_m ?_|refine a_p ?_ _));refine a_v ?_ a_S.out _;(with_reducible repeat (first|refine a_o ?_ _|refine a_m ?_|refine a_p ?_ _));refine a_v ?_ a_S.out _;(with_reducible repeat (first|refine a_o ?_ _|refine a_m ?_|refine a_p ?_ _));refine a_v ?_ a_S.out _;(with_reducible repeat (first|refine a_o ?_ _|refine a_m ?_|refine a_p ?_ _));refine a_v ?_ a_S.out _;(with_reducible repeat (first|refine a_o ?_ _|refine a_m ?_|refine a_p ?_ _));exact a_T.out) hb);replace a_L:=a_a.mk (a_b (g:=a_E) (o:=.cells #[.int .i64 ((a_s l1 x30_1).f0),.int .i64 ((a_s l1 x30_1).f1),.int .i64 ((a_s l1 x30_1).f2),.int .i64 ((a_s l1 x30_1).f3),.int .u32 ((a_s l1 x30_1).f4)] 35 (0,0)) (by (with_reducible repeat (first|refine a_o ?_ _|refine a_m ?_|refine a_p ?_ _));refine a_D (cs:=#[.int .i64 ((a_s l1 x30_1).f0),.int .i64 ((a_s l1 x30_1).f1),.int .i64 ((a_s l1 x30_1).f2),.int .i64 ((a_s l1 x30_1).f3),.int .u32 0]) ?_ 4 _ rfl;(with_reducible repeat (first|refine a_o ?_ _|refine a_m ?_|refine a_p ?_ _));refine a_D (cs:=#[.int .i64 ((a_s l1 x30_1).f0),.int .i64 ((a_s l1 x30_1).f1),.int .i64 ((a_s l1 x30_1).f2),.int .i64 0,.int .u32 0]) ?_ 3 _ rfl;(with_reducible repeat (first|refine a_o ?_ _|refine a_m ?_|refine a_p ?_ _));refine a_D (cs:=#[.int .i64 ((a_s l1 x30_1).f0),.int .i64 ((a_s l1 x30_1).f1),.int .i64 0,.int .i64 0,.int .u32 0]) ?_ 2 _ rfl;(with_reducible repeat (first|refine a_o ?_ _|refine a_m ?_|refine a_p ?_ _));refine a_D (cs:=#[.int .i64 ((a_s l1 x30_1).f0),.int .i64 0,.int .i64 0,.int .i64 0,.int .u32 0]) ?_ 1 _ rfl;(with_reducible repeat (first|refine a_o ?_ _|refine a_m ?_|refine a_p ?_ _));refine a_D (cs:=#[.int .i64 0,.int .i64 0,.int .i64 0,.int .i64 0,.int .u32 0]) ?_ 0 _ rfl;(with_reducible repeat (first|refine a_o ?_ _|refine a_m ?_|refine a_p ?_ _));exact a_L.out) hb);replace HB:=a_a.mk (a_i (by repeat (first|(with_reducible first|exact HB.out|apply a_e|apply a_c|apply a_g|refine a_d ?_ a_8.out|refine a_d ?_ b_s.out)|exact HB.out)) hb);(try clear hb);(try clear hb2);(try clear hk);(try clear hi);(try clear ho0))|((with_reducible refine a_u (N:=10) rfl ?_);refine a_t ?hg (N:=10) ?hd (cs:=#[.slice none 0 0]) (t:=26) ?hr ?_;(case hd => rfl);(case hg => rfl);(case hr => first|(go_simp;done)|(go_simp;rfl));intro b_b hg w33 hbox hb;have b_t:=a_a.mk (hbox);have g_E:=a_a.mk ((by rw [hg];exact (a_r (by repeat (first|(with_reducible first|exact HB.out|apply a_e|apply a_c|apply a_g|refine a_d ?_ a_8.out|refine a_d ?_ b_s.out)|exact HB.out))) : w.heap.size ≤ b_b));have c_L:=a_a.mk ((by rw [hg];exact (a_r (by repeat (first|(with_reducible first|exact HB.out|apply a_e|apply a_c|apply a_g|refine a_d ?_ a_8.out|refine a_d ?_ b_s.out)|exact HB.out))) : w.heap.size ≤ b_b));have b_y:=a_a.mk ((by rw [hg];exact Nat.ne_of_lt (a_k (bup_ a_T.out)) : b_e ≠ b_b));have b_Z:=a_a.mk ((by rw [hg];exact Nat.ne_of_gt (a_k (bup_ a_T.out)) : b_b ≠ b_e));have b_C:=a_a.mk ((by rw [hg];exact Nat.ne_of_lt (a_k (bup_ a_L.out)) : a_E ≠ b_b));have b_0:=a_a.mk ((by rw [hg];exact Nat.ne_of_gt (a_k (bup_ a_L.out)) : b_b ≠ a_E));replace a_C:=a_a.mk (Kd.a_G (rup_ a_C.out) hb);replace b_v:=a_a.mk (Kd.a_G (rup_ b_v.out) hb);replace a_T:=a_a.mk (a_b (bup_ a_T.out) hb);replace a_L:=a_a.mk (a_b (bup_ a_L.out) hb);replace HB:=a_a.mk (a_i (by repeat (first|(with_reducible first|exact HB.out|apply a_e|apply a_c|apply a_g|refine a_d ?_ a_8.out|refine a_d ?_ b_s.out)|exact HB.out)) hb);clear hb hbox hg;obtain ⟨Ao34,co34,eo34⟩:=Kd.a_W b_v.out;subst eo34;have i_q:=b_Z.out;have i_r:=b_y.out;have k_v:=b_0.out;have k_w:=b_C.out;have j_H : w33.cell? ⟨b_b,0,none⟩ = some (.slice none 0 0):=(a_h b_t.out 0).trans rfl;have j_I:=a_f b_t.out 0)|((with_reducible refine a_x (f:=8) rfl ?_);refine a_Y (some 47) rfl rfl Tryd.func8 (by kernel_rfl) rfl #[.agg #[.slice Ao34 t187.length co34]] rfl (by (try simp only [List.map_toArray,List.map_cons,List.map_nil]);first|done|rfl|(simp only [List.length_drop,List.length_take];rfl)) ?_;(with_reducible refine (a_j.calls k1 _ _ t187 true _ ?side1 ?side2 ?side3 A23.out).mono ?_);(case side1 => refine (Kd.a_B (e:=32) (base:=w.heap.size) (ok:=fun k_ => (True ∧ some k_ ≠ (.slice Ao31 x184000_1.length co31 : Value).ownBlock)) (n:=t187.length) (c:=co34) ?_).2.2;exact (by (with_reducible repeat (first|apply Kd.a_Q|apply Kd.a_M|apply Kd.a_P));exact (Kd.a_V (Kd.a_O (p:=⟨b_b,0,none⟩) (Kd.a_R b_v.out b_t.out (by decide)) (fun _ hk => hk.2) (.slice Ao34 t187.length co34)) (fun _ h_ => h_.1))));(case side2 => exact (Kd.a_B b_v.out).2.1);(case side3 => exact b_Q.below HT_.out (by repeat (first|(with_reducible first|exact HB.out|apply a_e|apply a_c|apply a_g|refine a_d ?_ a_8.out|refine a_d ?_ b_s.out|refine a_d ?_ c_L.out)|exact HB.out)));rintro e w38 ⟨rfl,hb⟩;refine ⟨_,rfl,?_⟩;replace a_C:=a_a.mk (Kd.a_G (by (with_reducible repeat (first|apply Kd.a_Q|apply Kd.a_M|apply Kd.a_P));exact (Kd.a_V (Kd.a_O (p:=⟨b_b,0,none⟩) (Kd.a_R a_C.out b_t.out (by decide)) (fun _ hk => hk.2) (.slice Ao34 t187.length co34)) (fun _ h_ => h_.1))) hb);replace b_v:=a_a.mk (Kd.a_G (by (with_reducible repeat (first|apply Kd.a_Q|apply Kd.a_M|apply Kd.a_P));exact (Kd.a_V (Kd.a_O (p:=⟨b_b,0,none⟩) (Kd.a_R b_v.out b_t.out (by decide)) (fun _ hk => hk.2) (.slice Ao34 t187.length co34)) (fun _ h_ => h_.1))) hb);replace a_T:=a_a.mk (a_b (g:=b_e) (o:=.cells #[.slice Ao31 x184000_1.length co31] 26 (0,0)) (by (with_reducible repeat (first|refine a_o ?_ _|refine a_m ?_|refine a_p ?_ _));refine a_v ?_ b_y.out _;(with_reducible repeat (first|refine a_o ?_ _|refine a_m ?_|refine a_p ?_ _));exact a_T.out) hb);replace a_L:=a_a.mk (a_b (g:=a_E) (o:=.cells #[.int .i64 ((a_s l1 x30_1).f0),.int .i64 ((a_s l1 x30_1).f1),.int .i64 ((a_s l1 x30_1).f2),.int .i64 ((a_s l1 x30_1).f3),.int .u32 ((a_s l1 x30_1).f4)] 35 (0,0)) (by (with_reducible repeat (first|refine a_o ?_ _|refine a_m ?_|refine a_p ?_ _));refine a_v ?_ b_C.out _;(with_reducible repeat (first|refine a_o ?_ _|refine a_m ?_|refine a_p ?_ _));exact a_L.out) hb);replace b_t:=a_a.mk (a_b (g:=b_b) (o:=.cells #[.slice Ao34 t187.length co34] 26 (0,0)) (by (with_reducible repeat (first|refine a_o ?_ _|refine a_m ?_|refine a_p ?_ _));refine a_D (cs:=#[.slice none 0 0]) ?_ 0 _ rfl;(with_reducible repeat (first|refine a_o ?_ _|refine a_m ?_|refine a_p ?_ _));exact b_t.out) hb);replace HB:=a_a.mk (a_i (by repeat (first|(with_reducible first|exact HB.out|apply a_e|apply a_c|apply a_g|refine a_d ?_ a_8.out|refine a_d ?_ b_s.out|refine a_d ?_ c_L.out)|exact HB.out)) hb);(try clear hb);(try clear hb2);(try clear hk);(try clear hi);have g_A : w38.cell? ⟨b_b,0,none⟩ = some (.slice Ao34 t187.length co34):=(a_h b_t.out 0).trans rfl;have g_B:=a_f b_t.out 0)|(go_at_call 6;(with_reducible refine (a_A.calls k1 _ _ t187 t194 _ ?side1 ?side2 A25.out).mono ?_);(case side1 => repeat (first|exact (Kd.a_B b_v.out).2.2|(with_reducible refine Kd.a_4 ?_ _)|(with_reducible refine Kd.a_6 ?_ _)|(with_reducible refine Kd.b_a ?_)));(case side2 => exact (Kd.a_B b_v.out).2.1);rintro e w40 ⟨rfl,hb⟩;replace a_C:=a_a.mk (Kd.a_G (rup_ a_C.out) hb);replace b_v:=a_a.mk (Kd.a_G (rup_ b_v.out) hb);replace a_T:=a_a.mk (a_b (bup_ a_T.out) hb);replace a_L:=a_a.mk (a_b (bup_ a_L.out) hb);replace b_t:=a_a.mk (a_b (bup_ b_t.out) hb);replace HB:=a_a.mk (a_i (by repeat (first|(with_reducible first|exact HB.out|apply a_e|apply a_c|apply a_g|refine a_d ?_ a_8.out|refine a_d ?_ b_s.out|refine a_d ?_ c_L.out)|exact HB.out)) hb);(try clear hb);(try clear hb2);(try clear hk);(try clear hi);have j_J : w40.cell? ⟨b_b,0,none⟩ = some (.slice Ao34 t187.length co34):=(a_h b_t.out 0).trans rfl;have j_K:=a_f b_t.out 0;have j_L : w40.cell? ⟨b_e,0,none⟩ = some (.slice Ao31 x184000_1.length co31):=(a_h a_T.out 0).trans rfl;have j_M:=a_f a_T.out 0))
   go_roundg k1
   case measure => have:=HK1.out;omega
   case rel => exact ⟨(wrap64 (x30_1 + 1)),(t187),(.slice Ao34 t187.length co34),(by first|rfl|(simp;done)|(simp [*];done)),H',⟨by have:=HK1.out;omega⟩,⟨by (with_reducible repeat (first|apply Kd.a_Q|apply Kd.a_M|apply Kd.a_P));exact Kd.a_V (Kd.a_O (p:=⟨b_e,0,none⟩) (Kd.a_R b_v.out a_T.out (by decide)) (fun _ hk => hk.2) (.slice Ao34 t187.length co34)) (fun _ hk => trivial)⟩,⟨by (with_reducible repeat (first|refine a_o ?_ _|refine a_m ?_|refine a_p ?_ _));refine a_D (cs:=#[.slice Ao31 x184000_1.length co31]) ?_ 0 _ rfl;(with_reducible repeat (first|refine a_o ?_ _|refine a_m ?_|refine a_p ?_ _));exact a_T.out⟩,⟨by repeat (first|(with_reducible first|exact HB.out|apply a_e|apply a_c|apply a_g|refine a_d ?_ a_8.out|refine a_d ?_ b_s.out|refine a_d ?_ c_L.out)|exact HB.out)⟩⟩
end Go.Proofs.YtkhbffjfclepfaaDoor.Q
end
section
namespace Go.Proofs.YtkhbffjfclepfaaDoor.Pure
open Go.RowKit Go.Proofs.YtkhbffjfclepfaaDoor.Q Go.Proofs.YtkhbffjfclepfaaDoorW.PrintWords Go.Proofs.YtkhbffjfclepfaaDoorW.PrintLast Go.Proofs.YtkhbffjfclepfaaDoorW.PrintMore
set_option linter.unusedVariables false
set_option linter.unusedSimpArgs false
theorem d_D (n : Nat) (h : n < 9223372036854775807) : wrap64 ((n : Int) + 1) = ((n + 1 : Nat) : Int):=by unfold wrap64;omega
theorem e_7 (n : Int) (h0 : -9223372036854775808 ≤ n) (h1 : n ≤ 9223372036854775807) : wrap64 n = n:=by unfold wrap64;omega
theorem wraps_u32 (n : Int) (h₀ : 0 ≤ n) (h₁ : n < 2 ^ 32) : IntKind.u32.wrap n = n:=by rw [IntKind.wrap_u32];omega
theorem e_5 {a b : Nat} (ha : a < 2 ^ 32) (hb : b < 2 ^ 32) : Go.bits .and .u32 (a : Int) (b : Int) = ((a &&& b : Nat) : Int):=(bits_nat .u32 32 (by decide) wraps_u32 a b ha hb).1
theorem or_n {a b : Nat} (ha : a < 2 ^ 32) (hb : b < 2 ^ 32) : Go.bits .or .u32 (a : Int) (b : Int) = ((a ||| b : Nat) : Int):=(bits_nat .u32 32 (by decide) wraps_u32 a b ha hb).2
def nd (a b : Nat) : Nat:=(BitVec.ofNat 32 a &&& ~~~BitVec.ofNat 32 b).toNat
theorem h_x (a b : Nat) : nd a b < 2 ^ 32:=BitVec.isLt _
theorem nd_n (a b : Nat) : Go.bits .andNot .u32 (a : Int) (b : Int) = (nd a b : Int):=by
 have h : Go.bits .andNot .u32 (a : Int) (b : Int) = IntKind.u32.wrap ((nd a b : Nat) : Int):=by
  simp only [Go.bits,BitVec.ofInt_natCast,nd]
  rfl
 rw [h]
 exact wraps_u32 _ (Int.natCast_nonneg _) (by have:=h_x a b;exact_mod_cast this)
theorem d_I {a b : Nat} (ha : a < 2 ^ 32) (i : Nat) : (nd a b).testBit i = (a.testBit i && !b.testBit i):=by
 unfold nd
 rw [BitVec.testBit_toNat,BitVec.getLsbD_and,BitVec.getLsbD_not,BitVec.getLsbD_ofNat,BitVec.getLsbD_ofNat]
 by_cases h : i < 32
 ·simp [h]
 have : a.testBit i = false:=Nat.testBit_lt_two_pow (Nat.lt_of_lt_of_le ha (Nat.pow_le_pow_right (by decide) (by omega)))
 simp [h,this]
theorem b_3 {a b : Nat} : a &&& b = 0 ↔ ∀ i,a.testBit i = true → b.testBit i = false:=by
 constructor
 ·intro h i hi
  have:=congrArg (Nat.testBit · i) h
  simp [Nat.testBit_and,hi] at this
  exact this
 intro h
 apply Nat.eq_of_testBit_eq
 intro i
 rw [Nat.testBit_and,Nat.zero_testBit]
 cases ha : a.testBit i
 ·rfl
 simp [h i ha]
theorem f_h {a b : Nat} (ha : a < 2 ^ 32) : nd a b = 0 ↔ ∀ i,a.testBit i = true → b.testBit i = true:=by
 constructor
 ·intro h i hi
  have:=congrArg (Nat.testBit · i) h
  simp [d_I ha,hi] at this
  exact this
 intro h
 apply Nat.eq_of_testBit_eq
 intro i
 rw [d_I ha,Nat.zero_testBit]
 cases hx : a.testBit i
 ·rfl
 simp [h i hx]
theorem g_K {a b : Nat} (ha : a < 2 ^ 31) (hb : b < 2 ^ 31) (h : a &&& b = 0) : a + b = a ||| b:=by
 have e:=BitVec.add_eq_or_of_and_eq_zero (BitVec.ofNat 32 a) (BitVec.ofNat 32 b) (by
  apply BitVec.eq_of_toNat_eq
  simp only [BitVec.toNat_and,BitVec.toNat_ofNat]
  rw [Nat.mod_eq_of_lt (by omega),Nat.mod_eq_of_lt (by omega),h])
 have e2:=congrArg BitVec.toNat e
 simp only [BitVec.toNat_add,BitVec.toNat_or,BitVec.toNat_ofNat] at e2
 rw [Nat.mod_eq_of_lt (show a < 2 ^ 32 by omega),Nat.mod_eq_of_lt (show b < 2 ^ 32 by omega),Nat.mod_eq_of_lt (by omega)] at e2
 exact e2
theorem f_6 {a b : Nat} (ha : a < 2 ^ 31) (h : ∀ i,b.testBit i = true → a.testBit i = true) : nd a b + b = a:=by
 have hb : b < 2 ^ 31:=by
  apply Nat.lt_of_not_le
  intro hc
  obtain ⟨i,hi,hi'⟩:=Nat.exists_ge_and_testBit_of_ge_two_pow hc
  have:=h i hi'
  rw [Nat.testBit_lt_two_pow (Nat.lt_of_lt_of_le ha (Nat.pow_le_pow_right (by decide) hi))] at this
  cases this
 have hn : nd a b < 2 ^ 31:=by
  apply Nat.lt_of_not_le
  intro hc
  obtain ⟨i,hi,hi'⟩:=Nat.exists_ge_and_testBit_of_ge_two_pow hc
  rw [d_I (by omega),Nat.testBit_lt_two_pow (Nat.lt_of_lt_of_le ha (Nat.pow_le_pow_right (by decide) hi))] at hi'
  simp at hi'
 rw [g_K hn hb (b_3.2 fun i hi => by rw [d_I (by omega)] at hi;simp at hi;exact hi.2)]
 apply Nat.eq_of_testBit_eq
 intro i
 rw [Nat.testBit_or,d_I (by omega)]
 cases hb' : b.testBit i
 ·simp
 simp [h i hb']
theorem d_G {a i : Nat} (ha : a < 256) (hi : 8 ≤ i) : a.testBit i = false:=Nat.testBit_lt_two_pow (Nat.lt_of_lt_of_le (show a < 2 ^ 8 by omega) (Nat.pow_le_pow_right (by decide) hi))
theorem d_b {a : Nat} (h : ∀ i,8 ≤ i → a.testBit i = false) : a < 256:=by
 apply Nat.lt_of_not_le
 intro hc
 obtain ⟨i,hi,hi'⟩:=Nat.exists_ge_and_testBit_of_ge_two_pow (show 2 ^ 8 ≤ a by omega)
 rw [h i hi] at hi'
 cases hi'
theorem g_L {a : Nat} (ha : a < 2 ^ 32) : nd a 255 = 0 ↔ a < 256:=by
 rw [f_h ha]
 constructor
 ·intro h
  refine d_b fun i hi => ?_
  cases hx : a.testBit i
  ·rfl
  have:=h i hx
  rw [d_G (by omega) hi] at this
  cases this
 intro h i hi
 have h8 : i < 8:=by
  apply Nat.lt_of_not_le
  intro hc
  rw [d_G h hc] at hi
  cases hi
 have : i = 0 ∨ i = 1 ∨ i = 2 ∨ i = 3 ∨ i = 4 ∨ i = 5 ∨ i = 6 ∨ i = 7:=by omega
 rcases this with rfl|rfl|rfl|rfl|rfl|rfl|rfl|rfl <;> decide
def up (S : List Nat) : List Int:=S.map fun (n : Nat) => (n : Int)
theorem a_1 (S : List Nat) : (up S).length = S.length:=List.length_map _
theorem f_f (S R : List Nat) : up (S ++ R) = up S ++ up R:=List.map_append
theorem h_v (S : List Nat) (i : Nat) : rd (up S) (i : Int) = ((S.getD i 0 : Nat) : Int):=by
 unfold rd up
 simp [List.getD_eq_getElem?_getD]
 cases S[i]? <;> simp
def cnt (S : List Nat) (c : Nat) : Nat:=S.countP (·.testBit c)
theorem b_E (s : Nat) (S : List Nat) (c : Nat) : cnt (s :: S) c = (if s.testBit c then 1 else 0) + cnt S c:=by
 unfold cnt
 rw [List.countP_cons]
 omega
theorem d_L (c : Nat) : cnt [] c = 0:=rfl
theorem e_M (S R : List Nat) (c : Nat) : cnt (S ++ R) c = cnt S c + cnt R c:=List.countP_append
structure Good (S : List Nat) : Prop where
 len1 : 1 ≤ S.length
 len4 : S.length ≤ 4
 each : ∀ s ∈ S,s ≠ 0 ∧ s < 256
 one : ∃ m,m ≤ 8 ∧ ∀ c,cnt S c = if c < m then 1 else 0
open Classical in
noncomputable def gd (S : List Nat) : Bool:=decide (Good S)
theorem b_I {S : List Nat} : gd S = true ↔ Good S:=by unfold gd;simp
theorem c_H (S : List Nat) (a c : Nat) : (S.foldl (· ||| ·) a).testBit c = (a.testBit c || decide (1 ≤ cnt S c)):=by
 induction S generalizing a with
 | nil => simp [d_L]
 | cons s S ih =>
  rw [List.foldl_cons,ih,Nat.testBit_or,b_E]
  cases a.testBit c <;> cases s.testBit c <;> simp
theorem f_L : ∀ U,U < 256 → U &&& (U + 1) = 0 → ∃ m,m ≤ 8 ∧ U = 2 ^ m - 1:=by
 intro U hU h
 have key : ∀ U : Fin 256,U.val &&& (U.val + 1) = 0 → U.val = 0 ∨ U.val = 1 ∨ U.val = 3 ∨ U.val = 7 ∨ U.val = 15 ∨ U.val = 31 ∨ U.val = 63 ∨ U.val = 127 ∨ U.val = 255:=by decide +kernel
 rcases key ⟨U,hU⟩ h with h|h|h|h|h|h|h|h|h <;> simp only at h
 ·exact ⟨0,by decide,h⟩
 ·exact ⟨1,by decide,h⟩
 ·exact ⟨2,by decide,h⟩
 ·exact ⟨3,by decide,h⟩
 ·exact ⟨4,by decide,h⟩
 ·exact ⟨5,by decide,h⟩
 ·exact ⟨6,by decide,h⟩
 ·exact ⟨7,by decide,h⟩
 exact ⟨8,by decide,h⟩
theorem f_H (S : List Nat) : Good S ↔ (1 ≤ S.length ∧ S.length ≤ 4) ∧ (∀ s ∈ S,s ≠ 0 ∧ s < 256) ∧ (∀ c,cnt S c ≤ 1) ∧ (S.foldl (· ||| ·) 0) &&& ((S.foldl (· ||| ·) 0 + 1) % 4294967296) = 0:=by
 have hU : (∀ s ∈ S,s ≠ 0 ∧ s < 256) → S.foldl (· ||| ·) 0 < 256:=fun h => d_b fun i hi => by
  rw [c_H]
  have : cnt S i = 0:=by
   unfold cnt
   rw [List.countP_eq_zero]
   intro s hs
   simp [d_G (h s hs).2 hi]
  simp [this]
 constructor
 ·rintro ⟨h1,h4,he,m,hm,ho⟩
  refine ⟨⟨h1,h4⟩,he,fun c => by rw [ho];split <;> omega,?_⟩
  have hu : S.foldl (· ||| ·) 0 = 2 ^ m - 1:=by
   apply Nat.eq_of_testBit_eq
   intro c
   rw [c_H,ho,Nat.testBit_two_pow_sub_one]
   by_cases hc : c < m <;> simp [hc]
  rw [hu]
  have : m = 0 ∨ m = 1 ∨ m = 2 ∨ m = 3 ∨ m = 4 ∨ m = 5 ∨ m = 6 ∨ m = 7 ∨ m = 8:=by omega
  rcases this with rfl|rfl|rfl|rfl|rfl|rfl|rfl|rfl|rfl <;> decide
 rintro ⟨⟨h1,h4⟩,he,hc,hz⟩
 have h:=hU he
 rw [Nat.mod_eq_of_lt (by omega)] at hz
 obtain ⟨m,hm,hu⟩:=f_L _ h hz
 refine ⟨h1,h4,he,m,hm,fun c => ?_⟩
 have:=c_H S 0 c
 rw [hu,Nat.testBit_two_pow_sub_one] at this
 simp at this
 have:=hc c
 by_cases hcm : c < m
 ·simp [hcm] at this ⊢; omega
 simp [hcm] at this ⊢; omega
def pc (s : Nat) : Nat:=(s.testBit 0).toNat + (s.testBit 1).toNat + (s.testBit 2).toNat + (s.testBit 3).toNat + (s.testBit 4).toNat + (s.testBit 5).toNat + (s.testBit 6).toNat + (s.testBit 7).toNat
theorem g_J (S : List Nat) : (S.map pc).sum = cnt S 0 + cnt S 1 + cnt S 2 + cnt S 3 + cnt S 4 + cnt S 5 + cnt S 6 + cnt S 7:=by
 induction S with
 | nil => rfl
 | cons s S ih =>
  have h : ∀ c,(if s.testBit c = true then 1 else 0) = (s.testBit c).toNat:=fun c => by cases s.testBit c <;> rfl
  simp only [List.map_cons,List.sum_cons,b_E,ih,pc,h]
  omega
def hb (s : Nat) (a : Int) : Bool:=decide (0 ≤ a ∧ a < 8) && s.testBit a.toNat
theorem f_U (s : Nat) (c : Nat) (h : c < 8) : hb s (c : Int) = s.testBit c:=by unfold hb;rw [decide_eq_true (by omega)];simp
theorem f_4 (s : Nat) (a : Int) (h : a < 0 ∨ 8 ≤ a) : hb s a = false:=by unfold hb;rw [decide_eq_false (by omega)];rfl
theorem eight {a : Int} (h0 : 0 ≤ a) (h8 : a < 8) : ∃ c : Nat,c < 8 ∧ a = (c : Int):=⟨a.toNat,by omega,by omega⟩
theorem g_Z (c : Nat) (h : c < 8) : b_A.f (c : Int) = some ((2 ^ c : Nat) : Int):=by
 have : c = 0 ∨ c = 1 ∨ c = 2 ∨ c = 3 ∨ c = 4 ∨ c = 5 ∨ c = 6 ∨ c = 7:=by omega
 rcases this with rfl|rfl|rfl|rfl|rfl|rfl|rfl|rfl <;> decide +kernel
theorem g_i (a : Int) (h : a < 0 ∨ 8 ≤ a) : b_A.f a = some 0:=by
 unfold b_A.f
 by_cases h0 : a < 0
 ·rw [if_pos h0]
 rw [if_neg h0,if_pos (by omega)]
theorem g_l (s c : Nat) : s &&& 2 ^ c = 0 ↔ s.testBit c = false:=by
 constructor
 ·intro h
  cases hx : s.testBit c
  ·rfl
  have:=b_3.1 h c hx
  simp [Nat.testBit_two_pow] at this
 intro h
 refine b_3.2 fun i hi => ?_
 rw [Nat.testBit_two_pow]
 apply decide_eq_false
 rintro rfl
 rw [h] at hi
 cases hi
theorem f_8 (c : Nat) (h : c < 8) : 2 ^ c < 2 ^ 32:=Nat.pow_lt_pow_right (by decide) (by omega)
theorem h_s (s : Nat) (hs : s < 2 ^ 32) (a : Int) : b_z.f (s : Int) a = some (hb s a):=by
 unfold b_z.f
 by_cases h : 0 ≤ a ∧ a < 8
 rotate_left
 ·rw [g_i a (by omega),f_4 s a (by omega)]
  simp only [Option.bind_some]
  have:=e_5 (a:=s) (b:=0) hs (by decide)
  simp at this
  rw [this]
  rfl
 obtain ⟨c,hc,rfl⟩:=eight h.1 h.2
 rw [g_Z c hc]
 simp only [Option.bind_some]
 rw [e_5 hs (f_8 c hc),f_U s c hc]
 have:=g_l s c
 cases hx : s.testBit c
 ·rw [this.2 hx];rfl
 have h2 : s &&& 2 ^ c ≠ 0:=fun h => by rw [this.1 h] at hx;cases hx
 have h3 : (((s &&& 2 ^ c : Nat) : Int) != 0) = true:=by simp;omega
 rw [h3]
theorem g_I (s : Nat) (hs : s < 2 ^ 32) (a : Int) : hasB (s : Int) a = hb s a:=by
 have:=f_3 (s : Int) a
 rw [h_s s hs a] at this
 exact (Option.some.inj this).symm
theorem e_F (s : Nat) (hs : s < 2 ^ 32) : a_N.f (s : Int) = some (if s < 256 then 0 else 140):=by
 unfold a_N.f
 have e:=nd_n s 255
 rw [show ((255 : Nat) : Int) = 255 from rfl] at e
 rw [e]
 by_cases h : s < 256
 ·rw [if_pos (by have:=(g_L hs).2 h;omega),if_pos h]
 rw [if_neg (by intro h2;exact h ((g_L hs).1 (by omega))),if_neg h]
def sub (s t : Nat) : Bool:=nd s t == 0
theorem g_g {s t : Nat} (hs : s < 2 ^ 32) : sub s t = true ↔ ∀ i,s.testBit i = true → t.testBit i = true:=by
 unfold sub
 rw [beq_iff_eq,f_h hs]
theorem f_J (s t : Nat) (hs : s < 256) : a_Z.f (s : Int) (t : Int) = some (sub s t):=by
 unfold a_Z.f sub
 have e : Go.bits .and .u32 (s : Int) 255 = (s : Int):=by
  have:=e_5 (a:=s) (b:=255) (by omega) (by decide)
  rw [show ((255 : Nat) : Int) = 255 from rfl] at this
  rw [this]
  have h2 : s &&& 255 = s:=by
   rw [show (255 : Nat) = 2 ^ 8 - 1 from rfl,Nat.and_two_pow_sub_one_eq_mod]
   omega
  rw [h2]
 rw [e,nd_n s t]
 congr 1
 cases h : nd s t with
 | zero => rfl
 | succ n => simp;omega
theorem d_Q (s : Nat) (hs : s < 256) : a_U.f (s : Int) = some ((pc s : Nat) : Int):=by
 have key : ∀ s : Fin 256,a_U.f ((s.val : Nat) : Int) = some ((pc s.val : Nat) : Int):=by decide +kernel
 exact key ⟨s,hs⟩
structure Fit (S : List Nat) : Prop where
 lt : ∀ s ∈ S,s < 2 ^ 32
 len : S.length ≤ 1000
theorem Good.fit {S : List Nat} (h : Good S) : Fit S:=⟨fun s hs => by have:=(h.each s hs).2;omega,by have:=h.len4;omega⟩
theorem f_i {S pre suf : List Nat} {x : Nat} (h : S = pre ++ x :: suf) : rd (up S) (pre.length : Int) = (x : Int):=by rw [h_v];subst h;simp
theorem e_1 {S pre suf : List Nat} {x : Nat} (h : S = pre ++ x :: suf) : pre.length < S.length:=by subst h;simp
theorem f_b {S pre suf : List Nat} {x : Nat} (h : S = pre ++ x :: suf) : x ∈ S:=by subst h;simp
theorem e_Y {S pre : List Nat} (h : S = pre ++ []) : pre.length = S.length:=by subst h;simp
theorem d_N {S pre suf : List Nat} {x : Nat} (h : S = pre ++ x :: suf) : S = (pre ++ [x]) ++ suf:=by simp [h]
theorem d_M {pre : List Nat} {x : Nat} (h : pre.length < 1000) : wrap64 ((pre.length : Int) + 1) = ((pre ++ [x]).length : Int):=by rw [d_D pre.length (by omega)];simp
def ckl : Bool → Nat → List Nat → Bool
 | ok,A,[] => ok && (A &&& ((A + 1) % 4294967296) == 0)
 | ok,A,x :: xs => ckl (ok && (x != 0) && decide (x < 256) && (x &&& A == 0)) (A ||| x) xs
theorem e_x (S : List Nat) (hS : Fit S) : ∀ (suf pre : List Nat) (ok : Bool) (A : Nat),S = pre ++ suf → A < 2 ^ 32 → Ev (fun k => a_n.l0 k ok (A : Int) (up S) ((up S).length : Int) (pre.length : Int)) (if ckl ok A suf = true then 0 else 180)
 | [],pre,ok,A,h,hA => ⟨1,fun k hk => by
  obtain ⟨k,rfl⟩ : ∃ k',k = k' + 1:=⟨k - 1,by omega⟩
  show a_n.l0 (k + 1) _ _ _ _ _ = _
  have e : Go.bits .and .u32 (A : Int) (((A : Int) + 1) % 4294967296) = ((A &&& ((A + 1) % 4294967296) : Nat) : Int):=by
   rw [← e_5 hA (show (A + 1) % 4294967296 < 2 ^ 32 by omega)]
   rfl
  rw [a_n.l0,if_neg (by rw [a_1,e_Y h];omega),e]
  unfold ckl
  cases ok
  ·simp
  ·rw [if_pos rfl]
   by_cases hz : A &&& ((A + 1) % 4294967296) = 0
   ·rw [hz];simp
   ·rw [if_neg (by omega),if_neg (by simpa using hz)]⟩
 | x :: suf,pre,ok,A,h,hA => by
  have hx:=hS.lt x (f_b h)
  have hlen:=hS.len
  have hlt:=e_1 h
  have hor : A ||| x < 2 ^ 32:=Nat.or_lt_two_pow hA hx
  obtain ⟨K,hK⟩:=e_x S hS suf (pre ++ [x]) (ok && (x != 0) && decide (x < 256) && (x &&& A == 0)) (A ||| x) (d_N h) hor
  refine ⟨K + 1,fun k hk => ?_⟩
  obtain ⟨k,rfl⟩ : ∃ k',k = k' + 1:=⟨k - 1,by omega⟩
  have hk' : a_n.l0 k (ok && (x != 0) && decide (x < 256) && (x &&& A == 0)) ((A ||| x : Nat) : Int) (up S) ((up S).length : Int) ((pre ++ [x]).length : Int) = some (if ckl (ok && (x != 0) && decide (x < 256) && (x &&& A == 0)) (A ||| x) suf = true then 0 else 180):=hK k (by omega)
  show a_n.l0 (k + 1) _ _ _ _ _ = _
  rw [a_n.l0,if_pos (by rw [a_1];omega),if_pos (by omega),if_pos (by rw [a_1];omega),f_i h,or_n hA hx,e_5 hx hA,d_M (x:=x) (by omega),e_F x hx,Option.bind_some]
  show _ = some (if ckl (ok && (x != 0) && decide (x < 256) && (x &&& A == 0)) (A ||| x) suf = true then 0 else 180)
  rw [← hk']
  cases ok
  ·rw [if_neg (by simp)];simp
  ·rw [if_pos rfl]
   by_cases h0 : x = 0
   ·subst h0;rw [if_pos (by rfl)];simp
   ·rw [if_neg (by omega)]
    have e1 : (x != 0) = true:=by simp [h0]
    by_cases h256 : x < 256
    ·rw [if_pos h256,if_pos rfl,e1,decide_eq_true h256]
     have e2 : ((((x &&& A : Nat) : Int)) == 0) = ((x &&& A) == 0):=by
      cases hz : x &&& A with
      | zero => rfl
      | succ n => simp;omega
     rw [e2]
     simp
    ·rw [if_neg h256,if_neg (by decide),decide_eq_false h256]
     simp
theorem g_j (ok : Bool) (A : Nat) (S : List Nat) : ckl ok A S = true ↔ ok = true ∧ (∀ s ∈ S,s ≠ 0 ∧ s < 256) ∧ (∀ c,(if A.testBit c then 1 else 0) + cnt S c ≤ 1) ∧ (S.foldl (· ||| ·) A) &&& ((S.foldl (· ||| ·) A + 1) % 4294967296) = 0:=by
 induction S generalizing ok A with
 | nil =>
  unfold ckl
  simp only [Bool.and_eq_true,beq_iff_eq,List.foldl_nil,d_L]
  constructor
  ·rintro ⟨h1,h2⟩
   exact ⟨h1,by simp,fun c => by split <;> omega,h2⟩
  rintro ⟨h1,_,_,h2⟩
  exact ⟨h1,h2⟩
 | cons x S ih =>
  rw [ckl,ih,List.foldl_cons]
  simp only [Bool.and_eq_true,beq_iff_eq,bne_iff_ne,decide_eq_true_eq,b_E,List.forall_mem_cons]
  constructor
  ·rintro ⟨⟨⟨⟨h1,h2⟩,h3⟩,h4⟩,h5,h6,h7⟩
   refine ⟨h1,⟨⟨h2,h3⟩,h5⟩,fun c => ?_,h7⟩
   have h8:=h6 c
   have h9:=b_3.1 h4 c
   rw [Nat.testBit_or] at h8
   cases hx : x.testBit c <;> cases ha : A.testBit c <;> simp [hx,ha] at h8 h9 ⊢ <;> omega
  rintro ⟨h1,⟨⟨h2,h3⟩,h5⟩,h6,h7⟩
  refine ⟨⟨⟨⟨h1,h2⟩,h3⟩,b_3.2 fun c hc => ?_⟩,h5,fun c => ?_,h7⟩
  ·have h8:=h6 c
   cases ha : A.testBit c
   ·rfl
   simp [hc,ha] at h8;omega
  have h8:=h6 c
  rw [Nat.testBit_or]
  cases hx : x.testBit c <;> cases ha : A.testBit c <;> simp [hx,ha] at h8 ⊢ <;> omega
theorem c_F {S : List Nat} (hS : Fit S) : Ev (fun k => a_n.f k (up S)) (if gd S = true then 0 else 180):=by
 have hl:=hS.len
 have key : ∀ ok : Bool,Ev (fun k => a_n.j0 k ok (up S)) (if ckl ok 0 S = true then 0 else 180):=fun ok => by
  refine Ev.step (f:=fun k => a_n.l0 k ok 0 (up S) ((up S).length : Int) 0) (fun k => by rw [a_n.j0]) ?_
  have:=e_x S hS S [] ok 0 rfl (by decide)
  simpa using this
 have e : gd S = ckl (decide (0 < S.length) && decide (S.length ≤ 4)) 0 S:=by
  rw [Bool.eq_iff_iff,b_I,g_j,f_H]
  simp
  intro _ _
  omega
 rw [e]
 refine Ev.congr (f:=fun k => a_n.j0 k (decide (0 < S.length) && decide (S.length ≤ 4)) (up S)) (fun k => ?_) (key _)
 unfold a_n.f
 rw [a_1]
 by_cases h0 : 0 < S.length
 rotate_left
 ·rw [if_neg (by omega),decide_eq_false h0,Bool.false_and]
 rw [if_pos (by omega),decide_eq_true h0,Bool.true_and]
 congr 1
 by_cases h4 : S.length ≤ 4
 ·rw [decide_eq_true h4,decide_eq_true (by omega)]
 rw [decide_eq_false h4,decide_eq_false (by omega)]
def fst_ (a : Int) (S : List Nat) : Option Nat:=S.findIdx? (hb · a)
noncomputable def ofv (a : Int) (S : List Nat) : Int × Bool:=if gd S = true then match fst_ a S with|some j => ((j : Int),true)|none => (0,false) else (0,false)
theorem h_n (a : Int) (S : List Nat) (hS : ∀ s ∈ S,s < 2 ^ 32) : idxOf (fun s => hasB s a) (up S) = match fst_ a S with|some j => (j : Int)|none => -1:=by
 unfold idxOf fst_
 have e : (up S).findIdx? (fun s => hasB s a) = S.findIdx? (hb · a):=by
  induction S with
  | nil => rfl
  | cons s S ih =>
   show ((s : Int) :: up S).findIdx? _ = _
   rw [List.findIdx?_cons,List.findIdx?_cons,g_I s (hS s (by simp)) a,ih (fun x hx => hS x (by simp [hx]))]
 rw [e]
 cases S.findIdx? (hb · a) <;> rfl
theorem Of_n (a : Int) {S : List Nat} (hS : Fit S) : Ev (fun k => a_3.f k (up S) a) (ofv a S):=by
 have hl:=hS.len
 unfold a_3.f a_I.f
 rw [if_pos (by rw [a_1];omega)]
 simp only [Option.bind_some]
 refine Ev.bind (c_F hS) ?_
 rw [h_n a S hS.lt]
 unfold ofv
 by_cases hg : gd S = true
 rotate_left
 ·rw [if_neg hg,if_neg hg]
  exact Ev.now _
 rw [if_pos hg,if_pos hg]
 refine Ev.congr (f:=fun _ => some (match fst_ a S with|some j => ((j : Int),true)|none => (0,false))) (fun k => ?_) (Ev.now _)
 rw [if_pos rfl]
 cases fst_ a S with
 | none => rfl
 | some j => simp only [];rw [if_neg (by omega)]
theorem e_G (S : List Nat) (i x : Nat) : (up S).set i (x : Int) = up (S.set i x):=by unfold up;rw [List.map_set]
theorem f_R (S : List Nat) (i : Nat) : (up S).eraseIdx i = up (S.eraseIdx i):=by
 unfold up
 induction S generalizing i with
 | nil => simp
 | cons s S ih => cases i <;> simp [ih]
theorem d_F (l : List Int) (a : Int) : a_F.f l [a] = some (decide (0 ≤ a ∧ a < (l.length : Int))):=by
 unfold a_F.f
 rw [if_pos (by simp)]
 congr 1
 rw [Bool.eq_iff_iff]
 simp
theorem f_O (l : List Int) (a b : Int) : a_F.f l [a,b] = some (decide (0 ≤ a ∧ a < (l.length : Int)) && decide (0 ≤ b ∧ b < (l.length : Int))):=by
 unfold a_F.f
 rw [if_pos (by simp)]
 congr 1
 rw [Bool.eq_iff_iff]
 simp
def gt (S : List Nat) (a : Int) : Nat:=S.getD a.toNat 0
theorem e_O (S : List Nat) (a : Int) : rd (up S) a = (gt S a : Int):=by
 unfold gt rd up
 simp [List.getD_eq_getElem?_getD]
 cases S[a.toNat]? <;> simp
theorem b_W {S : List Nat} {a : Int} (h0 : 0 ≤ a) (h1 : a < S.length) : gt S a ∈ S:=by
 unfold gt
 have : a.toNat < S.length:=by omega
 rw [List.getD_eq_getElem?_getD,List.getElem?_eq_getElem this]
 exact List.getElem_mem this
theorem e_p {S : List Nat} {a : Int} (h0 : 0 ≤ a) (h1 : a < S.length) : gt S a = S[a.toNat]'(by omega):=by
 unfold gt
 have : a.toNat < S.length:=by omega
 rw [List.getD_eq_getElem?_getD,List.getElem?_eq_getElem this]
 rfl
theorem uniq {p : Nat → Bool} : ∀ (S : List Nat) (i j : Nat) (hi : i < S.length) (hj : j < S.length),S.countP p ≤ 1 → p S[i] = true → p S[j] = true → i = j
 | [],i,j,hi,hj,_,_,_ => by simp at hi
 | s :: S,0,0,hi,hj,_,_,_ => rfl
 | s :: S,0,j + 1,hi,hj,h,h1,h2 => by
  rw [List.countP_cons] at h
  simp at h1 h2
  have : 0 < S.countP p:=List.countP_pos_iff.2 ⟨_,List.getElem_mem _,h2⟩
  rw [if_pos h1] at h
  omega
 | s :: S,i + 1,0,hi,hj,h,h1,h2 => by
  rw [List.countP_cons] at h
  simp at h1 h2
  have : 0 < S.countP p:=List.countP_pos_iff.2 ⟨_,List.getElem_mem _,h1⟩
  rw [if_pos h2] at h
  omega
 | s :: S,i + 1,j + 1,hi,hj,h,h1,h2 => by
  rw [List.countP_cons] at h
  have:=uniq (p:=p) S i j (by simpa using hi) (by simpa using hj) (by omega) (by simpa using h1) (by simpa using h2)
  omega
theorem Good.apart {S : List Nat} (h : Good S) {i j : Nat} (hi : i < S.length) (hj : j < S.length) (hij : i ≠ j) : S[i] &&& S[j] = 0:=by
 refine b_3.2 fun c hc => ?_
 cases hx : (S[j]).testBit c
 ·rfl
 obtain ⟨m,hm,ho⟩:=h.one
 have hc1:=ho c
 unfold cnt at hc1
 exact absurd (uniq S i j hi hj (by rw [hc1];split <;> omega) hc hx) hij
noncomputable def splv (S : List Nat) (a : Int) (s : Nat) : List Nat × Int × Int :=
 if gd S = true then if 0 ≤ a ∧ a < (S.length : Int) then if s < 256 then if s = 0 ∨ sub s (gt S a) = false then ([],0,2) else if s = gt S a then ([],0,181) else if S.length = 4 then ([],0,6) else (S.set a.toNat (nd (gt S a) s) ++ [s],(S.length : Int),0)
  else ([],0,140) else ([],0,4) else ([],0,180)
theorem e_8 (S : List Nat) (a : Int) (s : Nat) (hg : Good S) (h0 : 0 ≤ a ∧ a < (S.length : Int)) (hs : s < 2 ^ 32) :
 ∃ x,c_E (up S) a (s : Int) = some x ∧ (if x.1 = 0 then x.2.1 else []) = up (splv S a s).1 ∧ x.2.2 = (splv S a s).2.1 ∧ x.1 = (splv S a s).2.2:=by
 unfold c_E splv
 rw [if_pos (b_I.2 hg),if_pos h0,e_F s hs,Option.bind_some]
 by_cases h256 : s < 256
 rotate_left
 ·simp only [if_neg h256]
  exact ⟨(140,[],0),by rw [if_pos (by decide)],rfl,rfl,rfl⟩
 simp only [if_pos h256]
 rw [if_neg (show ¬((0 : Int) ≠ 0) by simp)]
 by_cases hz : s = 0
 ·refine ⟨(2,[],0),by rw [if_pos (show (s : Int) = 0 by omega)],?_⟩
  simp [hz,up]
 rw [if_neg (show ¬((s : Int) = 0) by omega),e_O,f_J s _ h256,Option.bind_some]
 by_cases hw : sub s (gt S a) = false
 ·refine ⟨(2,[],0),by rw [if_pos hw],?_⟩
  simp [hw,up]
 have hor : ¬(s = 0 ∨ sub s (gt S a) = false):=fun h => h.elim hz hw
 simp only [if_neg hw,if_neg hor]
 by_cases he : s = gt S a
 ·refine ⟨(181,[],0),by rw [if_pos (show (s : Int) = (gt S a : Int) by omega)],?_⟩
  simp only [if_pos he]
  simp [up]
 rw [if_neg (show ¬((s : Int) = (gt S a : Int)) by omega)]
 simp only [if_neg he,a_1]
 by_cases h4 : S.length = 4
 ·refine ⟨(6,[],0),by rw [if_pos h4],?_⟩
  simp only [if_pos h4]
  simp [up]
 simp only [if_neg h4]
 refine ⟨_,rfl,?_,rfl,rfl⟩
 rw [if_pos rfl,nd_n,e_G,f_f]
 rfl
theorem g_m {S : List Nat} (hS : Fit S) (a : Int) (s : Nat) (hs : s < 2 ^ 32) : Ev (fun k => a_J.f k (up S) a (s : Int)) (up (splv S a s).1,(splv S a s).2.1,(splv S a s).2.2):=by
 have hl:=hS.len
 refine Ev.congr (f:=fun k => (a_n.f k (up S)).bind fun e => if e ≠ 0 then some ([],0,e) else (a_F.f (up S) [a]).bind fun ok => if ok = false then some ([],0,4) else (c_E (up S) a s).bind fun x => some (if x.1 = 0 then x.2.1 else [],x.2.2,x.1)) (fun k => by unfold a_J.f;rw [if_pos (by rw [a_1];omega)]) ?_
 refine Ev.bind (c_F hS) ?_
 by_cases hg : gd S = true
 rotate_left
 ·rw [if_neg hg,if_pos (by decide)]
  unfold splv
  rw [if_neg hg]
  exact Ev.now _
 rw [if_pos hg,if_neg (by simp),d_F,Option.bind_some,a_1]
 by_cases h0 : 0 ≤ a ∧ a < (S.length : Int)
 ·rw [decide_eq_true h0,if_neg (by simp)]
  obtain ⟨x,h1,h2,h3,h4⟩:=e_8 S a s (b_I.1 hg) h0 hs
  rw [h1,Option.bind_some,h2,h3,h4]
  exact Ev.now _
 rw [decide_eq_false h0,if_pos rfl]
 unfold splv
 rw [if_pos hg,if_neg h0]
 exact Ev.now _
noncomputable def d_0 (S : List Nat) (a b : Int) : List Nat × Int :=
 if gd S = true then if (0 ≤ a ∧ a < (S.length : Int)) ∧ 0 ≤ b ∧ b < (S.length : Int) then if a = b then ([],2) else ((S.set b.toNat (gt S b ||| gt S a)).eraseIdx a.toNat,0) else ([],4) else ([],180)
theorem g_S {S : List Nat} (hS : Fit S) (a b : Int) : Ev (fun k => a_X.f k (up S) a b) (up (d_0 S a b).1,(d_0 S a b).2):=by
 have hl:=hS.len
 refine Ev.congr (f:=fun k => (a_n.f k (up S)).bind fun e => if e ≠ 0 then some ([],e) else (a_F.f (up S) [a,b]).bind fun ok => if ok = false then some ([],4) else (d_C (up S) a b).bind fun x => some (if x.1 = 0 then x.2 else [],x.1)) (fun k => by unfold a_X.f;rw [if_pos (by rw [a_1];omega)]) ?_
 refine Ev.bind (c_F hS) ?_
 unfold d_0
 by_cases hg : gd S = true
 rotate_left
 ·simp only [if_neg hg]
  rw [if_pos (by decide)]
  exact Ev.now _
 simp only [if_pos hg]
 rw [if_neg (show ¬((0 : Int) ≠ 0) by simp),f_O,Option.bind_some,a_1]
 by_cases h0 : (0 ≤ a ∧ a < (S.length : Int)) ∧ 0 ≤ b ∧ b < (S.length : Int)
 rotate_left
 ·simp only [if_neg h0]
  have e : (decide (0 ≤ a ∧ a < (S.length : Int)) && decide (0 ≤ b ∧ b < (S.length : Int))) = false:=by
   rw [← Bool.decide_and]
   exact decide_eq_false h0
  rw [e,if_pos rfl]
  exact Ev.now _
 simp only [if_pos h0]
 rw [decide_eq_true h0.1,decide_eq_true h0.2,if_neg (by simp)]
 unfold d_C
 by_cases hab : a = b
 ·simp only [if_pos hab,Option.bind_some]
  exact Ev.now _
 simp only [if_neg hab,Option.bind_some,e_O]
 have hgg:=b_I.1 hg
 rw [or_n (by have:=(hgg.each _ (b_W h0.2.1 h0.2.2)).2;omega) (by have:=(hgg.each _ (b_W h0.1.1 h0.1.2)).2;omega),e_G,f_R]
 exact Ev.now _
theorem g_k (c : Nat) (h : c < 8) : shl .u32 1 (c : Int) = ((2 ^ c : Nat) : Int):=by
 have : c = 0 ∨ c = 1 ∨ c = 2 ∨ c = 3 ∨ c = 4 ∨ c = 5 ∨ c = 6 ∨ c = 7:=by omega
 rcases this with rfl|rfl|rfl|rfl|rfl|rfl|rfl|rfl <;> decide +kernel
theorem e_C {a : Int} {S : List Nat} {j : Nat} (h : fst_ a S = some j) : ∃ c : Nat,c < 8 ∧ a = (c : Int) ∧ j < S.length ∧ (gt S (j : Int)).testBit c = true:=by
 unfold fst_ at h
 rw [List.findIdx?_eq_some_iff_getElem] at h
 obtain ⟨hj,h1,_⟩:=h
 by_cases ha : 0 ≤ a ∧ a < 8
 rotate_left
 ·rw [f_4 _ a (by omega)] at h1
  cases h1
 obtain ⟨c,hc,rfl⟩:=eight ha.1 ha.2
 rw [f_U _ c hc] at h1
 refine ⟨c,hc,rfl,hj,?_⟩
 rw [e_p (by omega) (by omega)]
 simpa using h1
theorem f_9 (S : List Nat) (j v : Nat) (a : Int) (h : a.toNat ≠ j) : gt (S.set j v) a = gt S a:=by
 unfold gt
 rw [List.getD_eq_getElem?_getD,List.getD_eq_getElem?_getD,List.getElem?_set_ne (by omega)]
noncomputable def movv (S : List Nat) (cpu tt : Int) : List Nat × Int × Int :=
 if gd S = true then if 0 ≤ tt ∧ tt < (S.length : Int) then match fst_ cpu S with
  | none => ([],0,2)
  | some j => if (j : Int) = tt then ([],0,5) else if pc (gt S (j : Int)) = 1 then ([],0,181) else ((S.set j (nd (gt S (j : Int)) (2 ^ cpu.toNat))).set tt.toNat (gt S tt ||| 2 ^ cpu.toNat),(j : Int),0)
  else ([],0,4) else ([],0,180)
theorem g_X {S : List Nat} (hS : Fit S) (cpu tt : Int) : Ev (fun k => a_H.f k (up S) cpu tt) (up (movv S cpu tt).1,(movv S cpu tt).2.1,(movv S cpu tt).2.2):=by
 have hl:=hS.len
 refine Ev.congr (f:=fun k => (a_n.f k (up S)).bind fun e => if e ≠ 0 then some ([],0,e) else (a_F.f (up S) [tt]).bind fun ok => if ok = false then some ([],0,4) else (c_C k (up S) cpu tt).bind fun x => some (if x.1 = 0 then x.2.1 else [],x.2.2,x.1)) (fun k => by unfold a_H.f;rw [if_pos (by rw [a_1];omega)]) ?_
 refine Ev.bind (c_F hS) ?_
 unfold movv
 by_cases hg : gd S = true
 rotate_left
 ·simp only [if_neg hg]
  simp only [if_pos (show (180 : Int) ≠ 0 by decide)]
  exact Ev.now _
 simp only [if_pos hg]
 simp only [if_neg (show ¬((0 : Int) ≠ 0) by simp),d_F,Option.bind_some,a_1]
 by_cases h0 : 0 ≤ tt ∧ tt < (S.length : Int)
 rotate_left
 ·simp only [if_neg h0]
  simp only [decide_eq_false h0,if_true]
  exact Ev.now _
 simp only [if_pos h0]
 simp only [decide_eq_true h0,Bool.true_eq_false,if_false]
 have hgg:=b_I.1 hg
 have hof:=Of_n cpu hS
 unfold ofv at hof
 rw [if_pos hg] at hof
 cases hf : fst_ cpu S with
 | none =>
  rw [hf] at hof
  refine Ev.bind (a:=(2,[],0)) ?_ (by simp only [];rw [if_neg (show ¬((2 : Int) = 0) by decide)];exact Ev.now _)
  unfold c_C
  exact Ev.bind hof (by simp only [if_true];exact Ev.now _)
 | some j =>
  rw [hf] at hof
  obtain ⟨c,hc,rfl,hj,hbit⟩:=e_C hf
  have hgj:=(hgg.each _ (b_W (a:=(j : Int)) (by omega) (by omega))).2
  have hgt:=(hgg.each _ (b_W (a:=tt) h0.1 h0.2)).2
  simp only []
  by_cases hjt : (j : Int) = tt
  ·simp only [if_pos hjt]
   refine Ev.bind (a:=(5,[],0)) ?_ (by simp only [];rw [if_neg (show ¬((5 : Int) = 0) by decide)];exact Ev.now _)
   unfold c_C
   exact Ev.bind hof (by simp only [];rw [if_neg (by simp),if_pos hjt];exact Ev.now _)
  simp only [if_neg hjt]
  have hcond : 0 ≤ (j : Int) ∧ (j : Int) < ((up S).length : Int) ∧ 0 ≤ (c : Int) ∧ (c : Int) < 8:=by rw [a_1];omega
  by_cases hp : pc (gt S (j : Int)) = 1
  ·simp only [if_pos hp]
   refine Ev.bind (a:=(181,[],0)) ?_ (by simp only [];rw [if_neg (show ¬((181 : Int) = 0) by decide)];exact Ev.now _)
   unfold c_C
   exact Ev.bind hof (by simp only [];rw [if_neg (by simp),if_neg hjt,if_pos hcond,e_O,d_Q _ hgj,Option.bind_some,if_pos (by omega)];exact Ev.now _)
  simp only [if_neg hp]
  refine Ev.bind (a:=(0,up ((S.set j (nd (gt S (j : Int)) (2 ^ c))).set tt.toNat (gt S tt ||| 2 ^ c)),(j : Int))) ?_ (by simp only [if_true];exact Ev.now _)
  unfold c_C
  refine Ev.bind hof ?_
  simp only []
  rw [if_neg (by simp),if_neg hjt,if_pos hcond,e_O,d_Q _ hgj,Option.bind_some,if_neg (by omega),g_k c hc,nd_n,e_O,or_n (by omega) (f_8 c hc),e_G,e_G]
  exact Ev.now _
noncomputable def runv (S : List Nat) (u a b cpu : Int) (s : Nat) : List Nat × Int × Int :=
 if u = 0 ∨ u = 1 then splv S a s else if u = 2 then ((d_0 S a b).1,0,(d_0 S a b).2) else movv S cpu b
theorem h_w {S : List Nat} (hS : Fit S) (kind a b cpu : Int) (s : Nat) (hs : s < 2 ^ 32) :
 Ev (fun k => a_q.f k kind a b cpu (s : Int) (up S)) (up (runv S (Int.tmod (IntKind.u64.wrap kind) 6) a b cpu s).1,(runv S (Int.tmod (IntKind.u64.wrap kind) 6) a b cpu s).2.1,(runv S (Int.tmod (IntKind.u64.wrap kind) 6) a b cpu s).2.2):=by
 unfold a_q.f
 generalize Int.tmod (IntKind.u64.wrap kind) 6 = u
 have key : ∀ ok : Bool,ok = decide (u = 0 ∨ u = 1) → Ev (fun k => a_q.j0 k 0 u ok kind a b cpu (s : Int) (up S)) (up (runv S u a b cpu s).1,(runv S u a b cpu s).2.1,(runv S u a b cpu s).2.2):=fun ok hok => by
  refine Ev.step (f:=fun k => if ok = true then ((a_J.f k (up S) a (s : Int)).bind fun bt159 => (some (bt159.1,bt159.2.1,bt159.2.2))) else (if u = 2 then ((a_X.f k (up S) a b).bind fun bt164 => (some (bt164.1,0,bt164.2))) else ((a_H.f k (up S) cpu b).bind fun bt168 => (some (bt168.1,bt168.2.1,bt168.2.2))))) (fun k => by rw [a_q.j0]) ?_
  unfold runv
  by_cases hu : u = 0 ∨ u = 1
  ·rw [decide_eq_true hu] at hok
   simp only [hok,if_true,if_pos hu]
   exact Ev.bind (g_m hS a s hs) (Ev.now _)
  rw [decide_eq_false hu] at hok
  simp only [hok,if_neg hu]
  simp only [Bool.false_eq_true,if_false]
  by_cases h2 : u = 2
  ·simp only [if_pos h2]
   exact Ev.bind (g_S hS a b) (Ev.now _)
  simp only [if_neg h2]
  exact Ev.bind (g_X hS cpu b) (Ev.now _)
 by_cases h0 : u = 0
 ·simp only [if_pos h0]
  exact key _ (by rw [h0];rfl)
 simp only [if_neg h0]
 exact key _ (by by_cases h1 : u = 1 <;> simp [h0,h1])
theorem f_W : Ev (fun k => a_w.f k) true:=Ev.of a_w.mono (k:=100) (by kernel_rfl)
theorem e_Z {S : List Nat} (hS : Fit S) : ∀ (suf pre : List Nat) (a : Nat),S = pre ++ suf → a < 2 ^ 32 →
 Ev (fun k => a_A.l0 k (a : Int) (up S) ((up S).length : Int) (pre.length : Int)) ((suf.foldl (· ||| ·) a : Nat) : Int)
 | [],pre,a,h,ha => by
  refine Ev.step (f:=fun _ => some (a : Int)) (fun k => ?_) (Ev.now _)
  rw [a_A.l0,if_neg (by rw [a_1,e_Y h];omega)]
 | x :: suf,pre,a,h,ha => by
  have hx:=hS.lt x (f_b h)
  have hlen:=hS.len
  have hlt:=e_1 h
  refine Ev.step (f:=fun k => a_A.l0 k ((a ||| x : Nat) : Int) (up S) ((up S).length : Int) ((pre ++ [x]).length : Int)) (fun k => ?_) (e_Z hS suf (pre ++ [x]) (a ||| x) (d_N h) (Nat.or_lt_two_pow ha hx))
  rw [a_A.l0,if_pos (by rw [a_1];omega),if_pos (by omega),if_pos (by rw [a_1];omega),f_i h,or_n ha hx,d_M (x:=x) (by omega)]
theorem f_k {S : List Nat} (hS : Fit S) : Ev (fun k => a_A.f k (up S)) (if gd S = true then ((S.foldl (· ||| ·) 0 : Nat) : Int) else 0):=by
 unfold a_A.f
 refine Ev.bind (c_F hS) ?_
 by_cases hg : gd S = true
 ·simp only [if_pos hg,if_true]
  exact e_Z hS S [] 0 rfl (by decide)
 simp only [if_neg hg]
 simp only [show ((180 : Int) = 0) = False by simp,if_false]
 exact Ev.now _
theorem h_r {S : List Nat} (hS : Fit S) (a : Int) : Ev (fun k => b_d.f k (up S) a) (if gd S = true ∧ 0 ≤ a ∧ a < (S.length : Int) then (gt S a : Int) else 0):=by
 unfold b_d.f
 refine Ev.bind (c_F hS) ?_
 by_cases hg : gd S = true
 rotate_left
 ·simp only [if_neg hg,if_neg (fun h : gd S = true ∧ _ => hg h.1)]
  simp only [show ((180 : Int) = 0) = False by simp,if_false]
  exact Ev.now _
 simp only [hg,if_true,true_and,d_F,Option.bind_some,a_1,e_O]
 by_cases h : 0 ≤ a ∧ a < (S.length : Int)
 ·simp only [decide_eq_true h,if_true,if_pos h.1,if_pos h.2,if_pos h]
  exact Ev.now _
 simp only [decide_eq_false h,if_neg h]
 rw [if_neg (by simp)]
 exact Ev.now _
theorem d_d (c : Nat) : ∀ (S : List Nat) (i x : Nat),i < S.length → cnt (S.set i x) c + ((S.getD i 0).testBit c).toNat = cnt S c + (x.testBit c).toNat
 | [],i,x,h => by simp at h
 | s :: S,0,x,h => by
  rw [List.set_cons_zero,b_E,b_E,List.getD_cons_zero]
  cases s.testBit c <;> cases x.testBit c <;> simp <;> omega
 | s :: S,i + 1,x,h => by
  have ih:=d_d c S i x (by simpa using h)
  rw [List.set_cons_succ,b_E,b_E,List.getD_cons_succ]
  omega
theorem d_Z (c : Nat) : ∀ (S : List Nat) (i : Nat),i < S.length → cnt (S.eraseIdx i) c + ((S.getD i 0).testBit c).toNat = cnt S c
 | [],i,h => by simp at h
 | s :: S,0,h => by
  rw [List.eraseIdx_cons_zero,b_E,List.getD_cons_zero]
  cases s.testBit c <;> simp <;> omega
 | s :: S,i + 1,h => by
  have ih:=d_Z c S i (by simpa using h)
  rw [List.eraseIdx_cons_succ,b_E,b_E,List.getD_cons_succ]
  omega
theorem e_E {a b : Nat} (ha : a < 256) (hb : b < 256) : a ||| b < 256:=Nat.or_lt_two_pow (n:=8) ha hb
theorem e_H {a b : Nat} (ha : a < 256) : nd a b < 256:=d_b fun i hi => by rw [d_I (by omega),d_G ha hi];rfl
theorem Good.e_2 {S Q : List Nat} (g : Good S) (h1 : 1 ≤ Q.length) (h4 : Q.length ≤ 4) (he : ∀ s ∈ Q,s ≠ 0 ∧ s < 256) (hc : ∀ c,cnt Q c = cnt S c) : Good Q:=by
 obtain ⟨m,hm,ho⟩:=g.one
 exact ⟨h1,h4,he,m,hm,fun c => (hc c).trans (ho c)⟩
theorem c_y {S : List Nat} {i x s : Nat} {P : Nat → Prop} (hS : ∀ s ∈ S,P s) (hx : P x) (h : s ∈ S.set i x) : P s:=by
 rcases List.mem_or_eq_of_mem_set h with h|rfl
 ·exact hS s h
 exact hx
structure d_i (S : List Nat) (a : Int) (s : Nat) : Prop where
 good : Good S
 r0 : 0 ≤ a
 r1 : a < (S.length : Int)
 s256 : s < 256
 s0 : s ≠ 0
 sub_ : ∀ i,s.testBit i = true → (gt S a).testBit i = true
 ne : s ≠ gt S a
 len : S.length ≠ 4
theorem e_6 {S : List Nat} {a : Int} {s : Nat} (h : (splv S a s).2.2 = 0) : d_i S a s ∧ splv S a s = (S.set a.toNat (nd (gt S a) s) ++ [s],(S.length : Int),0):=by
 unfold splv at h ⊢
 by_cases hg : gd S = true
 rotate_left
 ·simp only [if_neg hg] at h;omega
 simp only [if_pos hg] at h ⊢
 by_cases h0 : 0 ≤ a ∧ a < (S.length : Int)
 rotate_left
 ·simp only [if_neg h0] at h;omega
 simp only [if_pos h0] at h ⊢
 by_cases h256 : s < 256
 rotate_left
 ·simp only [if_neg h256] at h;omega
 simp only [if_pos h256] at h ⊢
 by_cases hz : s = 0 ∨ sub s (gt S a) = false
 ·simp only [if_pos hz] at h;omega
 simp only [if_neg hz] at h ⊢
 by_cases he : s = gt S a
 ·simp only [if_pos he] at h;omega
 simp only [if_neg he] at h ⊢
 by_cases h4 : S.length = 4
 ·simp only [if_pos h4] at h;omega
 simp only [if_neg h4] at h ⊢
 refine ⟨⟨b_I.1 hg,h0.1,h0.2,h256,fun h => hz (.inl h),?_,he,h4⟩,trivial⟩
 refine (g_g (by omega)).1 ?_
 cases hb : sub s (gt S a)
 ·exact absurd (.inr hb) hz
 rfl
theorem d_K (S : List Nat) (a : Int) : S.getD a.toNat 0 = gt S a:=rfl
theorem d_i.cnts {S : List Nat} {a : Int} {s : Nat} (k : d_i S a s) (c : Nat) : cnt (S.set a.toNat (nd (gt S a) s) ++ [s]) c = cnt S c:=by
 have g:=k.good
 have hg:=g.each _ (b_W k.r0 k.r1)
 have hlt : a.toNat < S.length:=by have:=k.r1;have:=k.r0;omega
 have h:=d_d c S a.toNat (nd (gt S a) s) hlt
 rw [d_K,d_I (by omega)] at h
 rw [e_M,b_E,d_L]
 have hs:=k.sub_ c
 cases h1 : s.testBit c <;> cases h2 : (gt S a).testBit c <;> simp [h1,h2] at h hs ⊢ <;> omega
theorem d_i.result {S : List Nat} {a : Int} {s : Nat} (k : d_i S a s) : Good (S.set a.toNat (nd (gt S a) s) ++ [s]):=by
 have g:=k.good
 have hg:=g.each _ (b_W k.r0 k.r1)
 have hlt : a.toNat < S.length:=by have:=k.r1;have:=k.r0;omega
 refine g.e_2 (by simp) (by have:=g.len4;have:=k.len;simp;omega) (fun x hx => ?_) (fun c => ?_)
 ·rcases List.mem_append.1 hx with hx|hx
  ·refine c_y (P:=fun s => s ≠ 0 ∧ s < 256) g.each ⟨fun hz => ?_,e_H hg.2⟩ hx
   have:=f_6 (a:=gt S a) (b:=s) (by omega) k.sub_
   exact k.ne (by omega)
  rw [List.mem_singleton] at hx
  rw [hx]
  exact ⟨k.s0,k.s256⟩
 exact k.cnts c
theorem e_Q {S : List Nat} {a b : Int} (h : (d_0 S a b).2 = 0) : Good S ∧ (0 ≤ a ∧ a < (S.length : Int)) ∧ (0 ≤ b ∧ b < (S.length : Int)) ∧ a ≠ b ∧ d_0 S a b = ((S.set b.toNat (gt S b ||| gt S a)).eraseIdx a.toNat,0):=by
 unfold d_0 at h ⊢
 by_cases hg : gd S = true
 rotate_left
 ·simp only [if_neg hg] at h;omega
 simp only [if_pos hg] at h ⊢
 by_cases h0 : (0 ≤ a ∧ a < (S.length : Int)) ∧ 0 ≤ b ∧ b < (S.length : Int)
 rotate_left
 ·simp only [if_neg h0] at h;omega
 simp only [if_pos h0] at h ⊢
 by_cases hab : a = b
 ·simp only [if_pos hab] at h;omega
 simp only [if_neg hab]
 exact ⟨b_I.1 hg,h0.1,h0.2,hab,trivial⟩
theorem d_Y {S : List Nat} {a b : Int} (g : Good S) (ha : 0 ≤ a ∧ a < (S.length : Int)) (hb : 0 ≤ b ∧ b < (S.length : Int)) (hab : a ≠ b) (c : Nat) : cnt ((S.set b.toNat (gt S b ||| gt S a)).eraseIdx a.toNat) c = cnt S c:=by
 have hga:=g.each _ (b_W ha.1 ha.2)
 have hgb:=g.each _ (b_W hb.1 hb.2)
 have hlen : (S.set b.toNat (gt S b ||| gt S a)).length = S.length:=List.length_set ..
 have hle : ((S.set b.toNat (gt S b ||| gt S a)).eraseIdx a.toNat).length = S.length - 1:=by
  rw [List.length_eraseIdx,if_pos (by rw [hlen];omega),hlen]
 have h:=d_d c S b.toNat (gt S b ||| gt S a) (by omega)
 have h2:=d_Z c (S.set b.toNat (gt S b ||| gt S a)) a.toNat (by rw [hlen];omega)
 rw [d_K,f_9 S b.toNat _ a (by omega)] at h2
 rw [d_K,Nat.testBit_or] at h
 have hap:=g.apart (i:=b.toNat) (j:=a.toNat) (by omega) (by omega) (by omega)
 rw [← e_p hb.1 hb.2, ← e_p ha.1 ha.2] at hap
 have hap:=b_3.1 hap c
 cases h3 : (gt S a).testBit c <;> cases h4 : (gt S b).testBit c <;> simp [h3,h4] at h h2 hap ⊢ <;> omega
theorem e_X {S : List Nat} {a b : Int} (g : Good S) (ha : 0 ≤ a ∧ a < (S.length : Int)) (hb : 0 ≤ b ∧ b < (S.length : Int)) (hab : a ≠ b) : Good ((S.set b.toNat (gt S b ||| gt S a)).eraseIdx a.toNat):=by
 have hga:=g.each _ (b_W ha.1 ha.2)
 have hgb:=g.each _ (b_W hb.1 hb.2)
 have hlen : (S.set b.toNat (gt S b ||| gt S a)).length = S.length:=List.length_set ..
 have hle : ((S.set b.toNat (gt S b ||| gt S a)).eraseIdx a.toNat).length = S.length - 1:=by
  rw [List.length_eraseIdx,if_pos (by rw [hlen];omega),hlen]
 refine g.e_2 (by rw [hle];omega) (by rw [hle];have:=g.len4;omega) (fun x hx => ?_) (fun c => ?_)
 ·refine c_y (P:=fun s => s ≠ 0 ∧ s < 256) g.each ⟨fun hz => ?_,e_E hgb.2 hga.2⟩ (List.mem_of_mem_eraseIdx hx)
  apply hgb.1
  apply Nat.eq_of_testBit_eq
  intro i
  have:=congrArg (Nat.testBit · i) hz
  simp [Nat.testBit_or] at this
  simp [this.1]
 exact d_Y g ha hb hab c
theorem g_H {Q : List Nat} (g : Good Q) {c : Nat} (hc : c < 8) {j : Nat} (hj : j < Q.length) (hb : (gt Q (j : Int)).testBit c = true) : fst_ (c : Int) Q = some j:=by
 unfold fst_
 rw [List.findIdx?_eq_some_iff_getElem]
 have hj' : gt Q (j : Int) = Q[j]:=e_p (by omega) (by omega)
 rw [hj'] at hb
 refine ⟨hj,by rw [f_U _ c hc];exact hb,fun i hi => ?_⟩
 rw [f_U _ c hc]
 cases hx : (Q[i]).testBit c
 ·simp
 exfalso
 obtain ⟨m,hm,ho⟩:=g.one
 have hc1:=ho c
 unfold cnt at hc1
 have:=uniq Q i j (by omega) hj (by rw [hc1];split <;> omega) hx hb
 omega
structure d_g (S : List Nat) (c j : Nat) (tt : Int) : Prop where
 good : Good S
 c8 : c < 8
 r0 : 0 ≤ tt
 r1 : tt < (S.length : Int)
 j1 : j < S.length
 bit : (gt S (j : Int)).testBit c = true
 ne : (j : Int) ≠ tt
 pc1 : pc (gt S (j : Int)) ≠ 1
def moved (S : List Nat) (c j : Nat) (tt : Int) : List Nat:=(S.set j (nd (gt S (j : Int)) (2 ^ c))).set tt.toNat (gt S tt ||| 2 ^ c)
theorem e_3 {S : List Nat} {cpu tt : Int} (h : (movv S cpu tt).2.2 = 0) : ∃ c j : Nat,cpu = (c : Int) ∧ d_g S c j tt ∧ movv S cpu tt = (moved S c j tt,(j : Int),0):=by
 unfold movv at h ⊢
 by_cases hg : gd S = true
 rotate_left
 ·simp only [if_neg hg] at h;omega
 simp only [if_pos hg] at h ⊢
 by_cases h0 : 0 ≤ tt ∧ tt < (S.length : Int)
 rotate_left
 ·simp only [if_neg h0] at h;omega
 simp only [if_pos h0] at h ⊢
 cases hf : fst_ cpu S with
 | none => rw [hf] at h;simp only at h;omega
 | some j =>
  obtain ⟨c,hc,rfl,hj,hb⟩:=e_C hf
  rw [hf] at h
  simp only at h ⊢
  by_cases hjt : (j : Int) = tt
  ·simp only [if_pos hjt] at h;omega
  simp only [if_neg hjt] at h ⊢
  by_cases hp : pc (gt S (j : Int)) = 1
  ·simp only [if_pos hp] at h;omega
  simp only [if_neg hp] at h ⊢
  exact ⟨c,j,rfl,⟨b_I.1 hg,hc,h0.1,h0.2,hj,hb,hjt,hp⟩,by simp only [moved,Int.toNat_natCast]⟩
theorem g_F {c : Nat} (h : c < 8) : 2 ^ c < 256:=Nat.pow_lt_pow_right (by decide) h
theorem g_Y {c : Nat} (h : c < 8) : pc (2 ^ c) = 1:=by
 have : c = 0 ∨ c = 1 ∨ c = 2 ∨ c = 3 ∨ c = 4 ∨ c = 5 ∨ c = 6 ∨ c = 7:=by omega
 rcases this with rfl|rfl|rfl|rfl|rfl|rfl|rfl|rfl <;> decide
theorem e_D (c i : Nat) : (2 ^ c).testBit i = decide (c = i):=Nat.testBit_two_pow ..
theorem d_g.own {S : List Nat} {c j : Nat} {tt : Int} (k : d_g S c j tt) : gt S (j : Int) < 256 ∧ gt S tt < 256 ∧ gt S tt ≠ 0 ∧ (gt S tt).testBit c = false ∧ nd (gt S (j : Int)) (2 ^ c) ≠ 0 ∧ nd (gt S (j : Int)) (2 ^ c) ||| 2 ^ c = gt S (j : Int):=by
 have g:=k.good
 have h1:=g.each _ (b_W (a:=(j : Int)) (by omega) (by have:=k.j1;omega))
 have h2:=g.each _ (b_W k.r0 k.r1)
 have hr1:=k.r1
 have hr0:=k.r0
 have hne:=k.ne
 have hap:=g.apart (i:=j) (j:=tt.toNat) k.j1 (by omega) (by omega)
 have ea : gt S (j : Int) = S[j]'k.j1:=e_p (by omega) (by have:=k.j1;omega)
 rw [← ea, ← e_p k.r0 k.r1] at hap
 have hb:=b_3.1 hap c k.bit
 have hsub:=f_6 (a:=gt S (j : Int)) (b:=2 ^ c) (by omega) (fun i hi => by
  rw [e_D,decide_eq_true_eq] at hi
  subst hi
  exact k.bit)
 refine ⟨h1.2,h2.2,h2.1,hb,fun hz => ?_,?_⟩
 ·have : gt S (j : Int) = 2 ^ c:=by omega
  exact k.pc1 (by rw [this];exact g_Y k.c8)
 apply Nat.eq_of_testBit_eq
 intro i
 rw [Nat.testBit_or,d_I (by omega),e_D]
 by_cases hi : c = i
 ·subst hi
  simp [k.bit]
 simp [hi]
theorem e_a (S : List Nat) (c j : Nat) (tt : Int) : (moved S c j tt).length = S.length:=by simp [moved]
theorem d_g.cnts {S : List Nat} {c j : Nat} {tt : Int} (k : d_g S c j tt) (i : Nat) : cnt (moved S c j tt) i = cnt S i:=by
 have g:=k.good
 obtain ⟨h1,h2,h3,h4,h5,h6⟩:=k.own
 have hr1:=k.r1
 have hr0:=k.r0
 have hne:=k.ne
 have e1:=d_d i S j (nd (gt S (j : Int)) (2 ^ c)) k.j1
 have e2:=d_d i (S.set j (nd (gt S (j : Int)) (2 ^ c))) tt.toNat (gt S tt ||| 2 ^ c) (by simp;omega)
 rw [d_K,f_9 _ _ _ _ (by omega),Nat.testBit_or,e_D] at e2
 rw [show S.getD j 0 = gt S (j : Int) by unfold gt;rw [Int.toNat_natCast],d_I (by omega),e_D] at e1
 unfold moved
 have hbit:=k.bit
 by_cases hi : c = i
 rotate_left
 ·simp [hi] at e1 e2
  omega
 subst hi
 rw [hbit] at e1
 rw [h4] at e2
 simp at e1 e2
 omega
theorem d_g.result {S : List Nat} {c j : Nat} {tt : Int} (k : d_g S c j tt) : Good (moved S c j tt):=by
 have g:=k.good
 obtain ⟨h1,h2,h3,h4,h5,h6⟩:=k.own
 have hr1:=k.r1
 have hr0:=k.r0
 have hne:=k.ne
 refine g.e_2 (by rw [e_a];exact g.len1) (by rw [e_a];exact g.len4) (fun x hx => ?_) (fun i => ?_)
 ·refine c_y (P:=fun s => s ≠ 0 ∧ s < 256) (fun y hy => c_y (P:=fun s => s ≠ 0 ∧ s < 256) g.each ⟨h5,e_H h1⟩ hy) ⟨fun hz => ?_,e_E h2 (g_F k.c8)⟩ hx
  apply h3
  apply Nat.eq_of_testBit_eq
  intro i
  have:=congrArg (Nat.testBit · i) hz
  simp [Nat.testBit_or] at this
  simp [this.1]
 exact k.cnts i
end Go.Proofs.YtkhbffjfclepfaaDoor.Pure
end
