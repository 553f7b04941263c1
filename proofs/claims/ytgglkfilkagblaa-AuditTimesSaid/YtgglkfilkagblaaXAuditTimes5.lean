/- Part 6 of 13 of what the row of AuditTimes stands on: contracts over the given program's functions, the plain law, the row; no condition beyond those that each theorem states. -/
import Derived.Test.YtgglkfilkagblaaXAuditTimes4
section
namespace Go.Proofs.Ytgglkfilkagblaa.Q
open Go.RowKit Go.Proofs.YtgglkfilkagblaaW.PrintWords Go.Proofs.YtgglkfilkagblaaW.PrintLast Go.Proofs.YtgglkfilkagblaaW.PrintMore
set_option linter.unusedVariables false
set_option linter.unusedSimpArgs false
def a_X.j0 : Nat → Bool → Int → Int → Int → Int → Int → Bool → Bool → Int → Int → Int → Int → Option (Bool)
 | 0,_,_,_,_,_,_,_,_,_,_,_,_ => none
 | k + 1,x3,x102000,x102001,x102002,x102003,x102004,x102005,x102006,x102007,x102008,x102009,x102010 => if x3 = true then ((a_K.f x102004 (-1) 7).bind fun t106 => (if t106 = true then ((c_o.f x102007).bind fun t107 => (if t107 = 0 then ((a_K.f x102008 1 65535).bind fun t108 => (if t108 = true then ((a_K.f x102009 1 8).bind fun t109 => (if t109 = true then ((a_K.f x102010 0 800).bind fun t110 => (some t110)) else (some false))) else (some false))) else (some false))) else (some false))) else (some false)
def a_X.f (k : Nat) (a0_0 : Int) (a0_1 : Int) (a0_2 : Int) (a0_3 : Int) (a0_4 : Int) (a0_5 : Bool) (a0_6 : Bool) (a0_7 : Int) (a0_8 : Int) (a0_9 : Int) (a0_10 : Int) : Option (Bool):=(a_K.f a0_0 1 16).bind fun t102 => (if t102 = true then ((a_K.f a0_1 1 8).bind fun t103 => (if t103 = true then ((a_K.f a0_2 0 8).bind fun t104 => (if t104 = true then ((a_K.f a0_3 0 3).bind fun t105 => (a_X.j0 k t105 a0_0 a0_1 a0_2 a0_3 a0_4 a0_5 a0_6 a0_7 a0_8 a0_9 a0_10)) else (a_X.j0 k false a0_0 a0_1 a0_2 a0_3 a0_4 a0_5 a0_6 a0_7 a0_8 a0_9 a0_10))) else (a_X.j0 k false a0_0 a0_1 a0_2 a0_3 a0_4 a0_5 a0_6 a0_7 a0_8 a0_9 a0_10))) else (a_X.j0 k false a0_0 a0_1 a0_2 a0_3 a0_4 a0_5 a0_6 a0_7 a0_8 a0_9 a0_10))
theorem a_X.c_w : ∀ k,(∀ y0 y1 y2 y3 y4 y5 y6 y7 y8 y9 y10 y11,LeO (a_X.j0 k y0 y1 y2 y3 y4 y5 y6 y7 y8 y9 y10 y11) (a_X.j0 (k + 1) y0 y1 y2 y3 y4 y5 y6 y7 y8 y9 y10 y11))
 | 0 => fun _ _ _ _ _ _ _ _ _ _ _ _ r h => by simp [a_X.j0] at h
 | k + 1 => by
  have ih0:=a_X.c_w k
  ·intro y0 y1 y2 y3 y4 y5 y6 y7 y8 y9 y10 y11
   unfold a_X.j0
   repeat' first
   | (with_reducible exact ih0 _ _ _ _ _ _ _ _ _ _ _ _)
   | (with_reducible exact LeO.refl _)
   | (with_reducible exact LeO.none _)
   | (with_reducible refine LeO.ite ?_ ?_)
   | (with_reducible refine LeO.bind ?_ (fun _ => ?_))
   | exact ih0 _ _ _ _ _ _ _ _ _ _ _ _
   | exact LeO.none _
   | refine LeO.ite ?_ ?_
   | refine LeO.bind ?_ (fun _ => ?_)
theorem a_X.mono : ∀ a0 a1 a2 a3 a4 a5 a6 a7 a8 a9 a10 k,LeO (a_X.f k a0 a1 a2 a3 a4 a5 a6 a7 a8 a9 a10) (a_X.f (k + 1) a0 a1 a2 a3 a4 a5 a6 a7 a8 a9 a10):=by
 intro a0 a1 a2 a3 a4 a5 a6 a7 a8 a9 a10 k
 have ih0:=a_X.c_w k
 unfold a_X.f
 repeat' first
  | (with_reducible exact ih0 _ _ _ _ _ _ _ _ _ _ _ _)
  | (with_reducible exact LeO.refl _)
  | (with_reducible exact LeO.none _)
  | (with_reducible refine LeO.ite ?_ ?_)
  | (with_reducible refine LeO.bind ?_ (fun _ => ?_))
  | exact ih0 _ _ _ _ _ _ _ _ _ _ _ _
  | exact LeO.none _
  | refine LeO.ite ?_ ?_
  | refine LeO.bind ?_ (fun _ => ?_)
set_option maxHeartbeats 8000000 in
set_option maxRecDepth 100000 in
theorem a_X.calls (k : Nat) (a0_0 : Int) (a0_1 : Int) (a0_2 : Int) (a0_3 : Int) (a0_4 : Int) (a0_5 : Bool) (a0_6 : Bool) (a0_7 : Int) (a0_8 : Int) (a0_9 : Int) (a0_10 : Int) (r : Bool) (w : World) (h : a_X.f k a0_0 a0_1 a0_2 a0_3 a0_4 a0_5 a0_6 a0_7 a0_8 a0_9 a0_10 = some r) :
 Calls Try.prog 53 #[.agg #[.int .i64 a0_0,.int .i64 a0_1,.int .i64 a0_2,.int .i64 a0_3,.int .i64 a0_4,.bool a0_5,.bool a0_6,.int .u32 a0_7,.int .i64 a0_8,.int .i64 a0_9,.int .i64 a0_10]] w fun e w' => e = .returned (.bool r) ∧ Below w.heap.size w w':=by
 have hu65:=Try.underlying65
 have HB:=a_d.mk (Below.refl w.heap.size w)
 have H : ((a_K.f a0_0 1 16).bind fun t102 => (if t102 = true then ((a_K.f a0_1 1 8).bind fun t103 => (if t103 = true then ((a_K.f a0_2 0 8).bind fun t104 => (if t104 = true then ((a_K.f a0_3 0 3).bind fun t105 => (a_X.j0 k t105 a0_0 a0_1 a0_2 a0_3 a0_4 a0_5 a0_6 a0_7 a0_8 a0_9 a0_10)) else (a_X.j0 k false a0_0 a0_1 a0_2 a0_3 a0_4 a0_5 a0_6 a0_7 a0_8 a0_9 a0_10))) else (a_X.j0 k false a0_0 a0_1 a0_2 a0_3 a0_4 a0_5 a0_6 a0_7 a0_8 a0_9 a0_10))) else (a_X.j0 k false a0_0 a0_1 a0_2 a0_3 a0_4 a0_5 a0_6 a0_7 a0_8 a0_9 a0_10))) = some r:=h
 clear h
 have HC2:=a_d.mk H
 clear H
 go_enter Try.func53,Try.ntmps53
 go_upto_region 1 with (first|((with_reducible refine a_J (N:=1) rfl ?_);refine a_C ?hg (N:=1) ?hd (cs:=#[.int .i64 a0_0,.int .i64 a0_1,.int .i64 a0_2,.int .i64 a0_3,.int .i64 a0_4,.bool a0_5,.bool a0_6,.int .u32 a0_7,.int .i64 a0_8,.int .i64 a0_9,.int .i64 a0_10]) (t:=65) ?hr ?_;(case hd => rfl);(case hg => rfl);(case hr => first|(go_simp;done)|(go_simp;rfl));intro b_v hg w3 hbox hb;have a_1:=a_d.mk (hbox);have H_e:=a_d.mk ((by rw [hg];exact (a_n (lup_ HB.out)) : w.heap.size ≤ b_v));have j_g:=a_d.mk ((by rw [hg];exact (a_n (lup_ HB.out)) : w.heap.size ≤ b_v));replace HB:=a_d.mk (a_o (lup_ HB.out) hb);clear hb hbox hg))
 (try simp only [Act.put,sa_,sb_,sc_])
 go_cut [3] (fun v3 wc => ∃ (kq : Nat) (x3_1 : Bool),v3 = .bool x3_1 ∧ a_d (a_X.j0 kq x3_1 a0_0 a0_1 a0_2 a0_3 a0_4 a0_5 a0_6 a0_7 a0_8 a0_9 a0_10 = some r) ∧ a_d (kq ≤ k) ∧ a_d (wc.heap[b_v]? = some (.cells #[.int .i64 a0_0,.int .i64 a0_1,.int .i64 a0_2,.int .i64 a0_3,.int .i64 a0_4,.bool a0_5,.bool a0_6,.int .u32 a0_7,.int .i64 a0_8,.int .i64 a0_9,.int .i64 a0_10] 65 (0,0))) ∧ a_d (Below w.heap.size w wc))
 case first =>
  have H:=HC2.out
  clear HC2
  replace H:=Option.bind_eq_some_iff.mp H
  obtain ⟨t102,A40,H⟩:=H
  replace H : (if t102 = true then ((a_K.f a0_1 1 8).bind fun t103 => (if t103 = true then ((a_K.f a0_2 0 8).bind fun t104 => (if t104 = true then ((a_K.f a0_3 0 3).bind fun t105 => (a_X.j0 k t105 a0_0 a0_1 a0_2 a0_3 a0_4 a0_5 a0_6 a0_7 a0_8 a0_9 a0_10)) else (a_X.j0 k false a0_0 a0_1 a0_2 a0_3 a0_4 a0_5 a0_6 a0_7 a0_8 a0_9 a0_10))) else (a_X.j0 k false a0_0 a0_1 a0_2 a0_3 a0_4 a0_5 a0_6 a0_7 a0_8 a0_9 a0_10))) else (a_X.j0 k false a0_0 a0_1 a0_2 a0_3 a0_4 a0_5 a0_6 a0_7 a0_8 a0_9 a0_10)) = some r:=H
  have A4:=a_d.mk A40
  clear A40
  by_cases c5 : t102 = true
  rotate_left
  ·replace c5:=Bool.eq_false_iff.mpr c5
   subst c5
   have H1 : (a_X.j0 k false a0_0 a0_1 a0_2 a0_3 a0_4 a0_5 a0_6 a0_7 a0_8 a0_9 a0_10) = some r:=by rw [if_neg (show ¬ (false = true) by decide)] at H;exact H
   clear H
   have H:=H1
   clear H1
   have H':=a_d.mk H
   clear H
   have i_a : w3.cell? ⟨b_v,0,none⟩ = some (.int .i64 a0_0):=(a_a a_1.out 0).trans rfl
   have i_b : w3.cell? ⟨b_v,1,none⟩ = some (.int .i64 a0_1):=(a_a a_1.out 1).trans rfl
   have i_d : w3.cell? ⟨b_v,2,none⟩ = some (.int .i64 a0_2):=(a_a a_1.out 2).trans rfl
   have i_e : w3.cell? ⟨b_v,3,none⟩ = some (.int .i64 a0_3):=(a_a a_1.out 3).trans rfl
   have i_f : w3.cell? ⟨b_v,4,none⟩ = some (.int .i64 a0_4):=(a_a a_1.out 4).trans rfl
   have i_g : w3.cell? ⟨b_v,5,none⟩ = some (.bool a0_5):=(a_a a_1.out 5).trans rfl
   have i_h : w3.cell? ⟨b_v,6,none⟩ = some (.bool a0_6):=(a_a a_1.out 6).trans rfl
   have i_i : w3.cell? ⟨b_v,7,none⟩ = some (.int .u32 a0_7):=(a_a a_1.out 7).trans rfl
   have i_j : w3.cell? ⟨b_v,8,none⟩ = some (.int .i64 a0_8):=(a_a a_1.out 8).trans rfl
   have i_k : w3.cell? ⟨b_v,9,none⟩ = some (.int .i64 a0_9):=(a_a a_1.out 9).trans rfl
   have g_O : w3.cell? ⟨b_v,10,none⟩ = some (.int .i64 a0_10):=(a_a a_1.out 10).trans rfl
   have i_l:=a_b a_1.out 0
   have i_m:=a_b a_1.out 1
   have i_n:=a_b a_1.out 2
   have i_o:=a_b a_1.out 3
   have i_p:=a_b a_1.out 4
   have i_q:=a_b a_1.out 5
   have i_r:=a_b a_1.out 6
   have i_s:=a_b a_1.out 7
   have i_t:=a_b a_1.out 8
   have i_u:=a_b a_1.out 9
   have g_P:=a_b a_1.out 10
   go_wp2_with (first|((with_reducible refine b_a (f:=80) rfl ?_);refine c_v (some 6) rfl rfl Try.func80 (by kernel_rfl) rfl #[.int .i64 a0_0,.int .i64 1,.int .i64 16] rfl (by (try simp only [List.map_toArray,List.map_cons,List.map_nil]);first|done|rfl|(simp only [List.length_drop,List.length_take];rfl)) ?_;(with_reducible refine (a_K.calls a0_0 1 16 false _ A4.out).mono ?_);rintro e w' ⟨rfl,⟨nd,rfl⟩⟩;refine ⟨_,rfl,?_⟩))
   go_meet
   case rel => exact ⟨_,(false),(by first|rfl|(simp;done)|(simp [*];done)),H',⟨by first|omega|exact Nat.le_refl _⟩,⟨by (with_reducible repeat (first|refine a_l ?_ _|refine a_m ?_|refine a_j ?_ _));exact a_1.out⟩,⟨by repeat (first|(with_reducible first|exact HB.out|apply a_g|apply a_e|apply a_h|refine a_f ?_ j_g.out)|exact HB.out)⟩⟩
  subst c5
  have H1 : ((a_K.f a0_1 1 8).bind fun t103 => (if t103 = true then ((a_K.f a0_2 0 8).bind fun t104 => (if t104 = true then ((a_K.f a0_3 0 3).bind fun t105 => (a_X.j0 k t105 a0_0 a0_1 a0_2 a0_3 a0_4 a0_5 a0_6 a0_7 a0_8 a0_9 a0_10)) else (a_X.j0 k false a0_0 a0_1 a0_2 a0_3 a0_4 a0_5 a0_6 a0_7 a0_8 a0_9 a0_10))) else (a_X.j0 k false a0_0 a0_1 a0_2 a0_3 a0_4 a0_5 a0_6 a0_7 a0_8 a0_9 a0_10))) = some r:=by rw [if_pos rfl] at H;exact H
  clear H
  have H:=H1
  clear H1
  replace H:=Option.bind_eq_some_iff.mp H
  obtain ⟨t103,A60,H⟩:=H
  replace H : (if t103 = true then ((a_K.f a0_2 0 8).bind fun t104 => (if t104 = true then ((a_K.f a0_3 0 3).bind fun t105 => (a_X.j0 k t105 a0_0 a0_1 a0_2 a0_3 a0_4 a0_5 a0_6 a0_7 a0_8 a0_9 a0_10)) else (a_X.j0 k false a0_0 a0_1 a0_2 a0_3 a0_4 a0_5 a0_6 a0_7 a0_8 a0_9 a0_10))) else (a_X.j0 k false a0_0 a0_1 a0_2 a0_3 a0_4 a0_5 a0_6 a0_7 a0_8 a0_9 a0_10)) = some r:=H
  have A6:=a_d.mk A60
  clear A60
  by_cases c7 : t103 = true
  rotate_left
  ·replace c7:=Bool.eq_false_iff.mpr c7
   subst c7
   have H1 : (a_X.j0 k false a0_0 a0_1 a0_2 a0_3 a0_4 a0_5 a0_6 a0_7 a0_8 a0_9 a0_10) = some r:=by rw [if_neg (show ¬ (false = true) by decide)] at H;exact H
   clear H
   have H:=H1
   clear H1
   have H':=a_d.mk H
   clear H
   have g_W : w3.cell? ⟨b_v,0,none⟩ = some (.int .i64 a0_0):=(a_a a_1.out 0).trans rfl
   have g_X : w3.cell? ⟨b_v,1,none⟩ = some (.int .i64 a0_1):=(a_a a_1.out 1).trans rfl
   have k_8 : w3.cell? ⟨b_v,2,none⟩ = some (.int .i64 a0_2):=(a_a a_1.out 2).trans rfl
   have k_9 : w3.cell? ⟨b_v,3,none⟩ = some (.int .i64 a0_3):=(a_a a_1.out 3).trans rfl
   have l_a : w3.cell? ⟨b_v,4,none⟩ = some (.int .i64 a0_4):=(a_a a_1.out 4).trans rfl
   have l_b : w3.cell? ⟨b_v,5,none⟩ = some (.bool a0_5):=(a_a a_1.out 5).trans rfl
   have l_d : w3.cell? ⟨b_v,6,none⟩ = some (.bool a0_6):=(a_a a_1.out 6).trans rfl
   have l_e : w3.cell? ⟨b_v,7,none⟩ = some (.int .u32 a0_7):=(a_a a_1.out 7).trans rfl
   have l_f : w3.cell? ⟨b_v,8,none⟩ = some (.int .i64 a0_8):=(a_a a_1.out 8).trans rfl
   have l_g : w3.cell? ⟨b_v,9,none⟩ = some (.int .i64 a0_9):=(a_a a_1.out 9).trans rfl
   have j_C : w3.cell? ⟨b_v,10,none⟩ = some (.int .i64 a0_10):=(a_a a_1.out 10).trans rfl
   have g_Y:=a_b a_1.out 0
   have g_Z:=a_b a_1.out 1
   have l_h:=a_b a_1.out 2
   have l_i:=a_b a_1.out 3
   have l_j:=a_b a_1.out 4
   have l_k:=a_b a_1.out 5
   have l_l:=a_b a_1.out 6
   have l_m:=a_b a_1.out 7
   have l_n:=a_b a_1.out 8
   have l_o:=a_b a_1.out 9
   have j_D:=a_b a_1.out 10
   go_wp2_with (first|((with_reducible refine b_a (f:=80) rfl ?_);refine c_v (some 6) rfl rfl Try.func80 (by kernel_rfl) rfl #[.int .i64 a0_0,.int .i64 1,.int .i64 16] rfl (by (try simp only [List.map_toArray,List.map_cons,List.map_nil]);first|done|rfl|(simp only [List.length_drop,List.length_take];rfl)) ?_;(with_reducible refine (a_K.calls a0_0 1 16 true _ A4.out).mono ?_);rintro e w' ⟨rfl,⟨nd,rfl⟩⟩;refine ⟨_,rfl,?_⟩)|(go_at_call 80;(with_reducible refine (a_K.calls a0_1 1 8 false _ A6.out).mono ?_);rintro e w' ⟨rfl,⟨nd,rfl⟩⟩))
   go_meet
   case rel => exact ⟨_,(false),(by first|rfl|(simp;done)|(simp [*];done)),H',⟨by first|omega|exact Nat.le_refl _⟩,⟨by (with_reducible repeat (first|refine a_l ?_ _|refine a_m ?_|refine a_j ?_ _));exact a_1.out⟩,⟨by repeat (first|(with_reducible first|exact HB.out|apply a_g|apply a_e|apply a_h|refine a_f ?_ j_g.out)|exact HB.out)⟩⟩
  subst c7
  have H1 : ((a_K.f a0_2 0 8).bind fun t104 => (if t104 = true then ((a_K.f a0_3 0 3).bind fun t105 => (a_X.j0 k t105 a0_0 a0_1 a0_2 a0_3 a0_4 a0_5 a0_6 a0_7 a0_8 a0_9 a0_10)) else (a_X.j0 k false a0_0 a0_1 a0_2 a0_3 a0_4 a0_5 a0_6 a0_7 a0_8 a0_9 a0_10))) = some r:=by rw [if_pos rfl] at H;exact H
  clear H
  have H:=H1
  clear H1
  replace H:=Option.bind_eq_some_iff.mp H
  obtain ⟨t104,A80,H⟩:=H
  replace H : (if t104 = true then ((a_K.f a0_3 0 3).bind fun t105 => (a_X.j0 k t105 a0_0 a0_1 a0_2 a0_3 a0_4 a0_5 a0_6 a0_7 a0_8 a0_9 a0_10)) else (a_X.j0 k false a0_0 a0_1 a0_2 a0_3 a0_4 a0_5 a0_6 a0_7 a0_8 a0_9 a0_10)) = some r:=H
  have A8:=a_d.mk A80
  clear A80
  by_cases c9 : t104 = true
  rotate_left
  ·replace c9:=Bool.eq_false_iff.mpr c9
   subst c9
   have H1 : (a_X.j0 k false a0_0 a0_1 a0_2 a0_3 a0_4 a0_5 a0_6 a0_7 a0_8 a0_9 a0_10) = some r:=by rw [if_neg (show ¬ (false = true) by decide)] at H;exact H
   clear H
   have H:=H1
   clear H1
   have H':=a_d.mk H
   clear H
   have e_0 : w3.cell? ⟨b_v,0,none⟩ = some (.int .i64 a0_0):=(a_a a_1.out 0).trans rfl
   have e_1 : w3.cell? ⟨b_v,1,none⟩ = some (.int .i64 a0_1):=(a_a a_1.out 1).trans rfl
   have l_z : w3.cell? ⟨b_v,2,none⟩ = some (.int .i64 a0_2):=(a_a a_1.out 2).trans rfl
   have l_A : w3.cell? ⟨b_v,3,none⟩ = some (.int .i64 a0_3):=(a_a a_1.out 3).trans rfl
   have l_B : w3.cell? ⟨b_v,4,none⟩ = some (.int .i64 a0_4):=(a_a a_1.out 4).trans rfl
   have l_C : w3.cell? ⟨b_v,5,none⟩ = some (.bool a0_5):=(a_a a_1.out 5).trans rfl
   have l_D : w3.cell? ⟨b_v,6,none⟩ = some (.bool a0_6):=(a_a a_1.out 6).trans rfl
   have l_E : w3.cell? ⟨b_v,7,none⟩ = some (.int .u32 a0_7):=(a_a a_1.out 7).trans rfl
   have l_F : w3.cell? ⟨b_v,8,none⟩ = some (.int .i64 a0_8):=(a_a a_1.out 8).trans rfl
   have l_G : w3.cell? ⟨b_v,9,none⟩ = some (.int .i64 a0_9):=(a_a a_1.out 9).trans rfl
   have j_X : w3.cell? ⟨b_v,10,none⟩ = some (.int .i64 a0_10):=(a_a a_1.out 10).trans rfl
   have e_2:=a_b a_1.out 0
   have e_3:=a_b a_1.out 1
   have l_H:=a_b a_1.out 2
   have l_I:=a_b a_1.out 3
   have l_J:=a_b a_1.out 4
   have l_K:=a_b a_1.out 5
   have l_L:=a_b a_1.out 6
   have l_M:=a_b a_1.out 7
   have l_N:=a_b a_1.out 8
   have l_O:=a_b a_1.out 9
   have j_Y:=a_b a_1.out 10
   go_wp2_with (first|((with_reducible refine b_a (f:=80) rfl ?_);refine c_v (some 6) rfl rfl Try.func80 (by kernel_rfl) rfl #[.int .i64 a0_0,.int .i64 1,.int .i64 16] rfl (by (try simp only [List.map_toArray,List.map_cons,List.map_nil]);first|done|rfl|(simp only [List.length_drop,List.length_take];rfl)) ?_;(with_reducible refine (a_K.calls a0_0 1 16 true _ A4.out).mono ?_);rintro e w' ⟨rfl,⟨nd,rfl⟩⟩;refine ⟨_,rfl,?_⟩)|(go_at_call 80;(with_reducible refine (a_K.calls a0_1 1 8 true _ A6.out).mono ?_);rintro e w' ⟨rfl,⟨nd,rfl⟩⟩)|(go_at_call 80;(with_reducible refine (a_K.calls a0_2 0 8 false _ A8.out).mono ?_);rintro e w' ⟨rfl,⟨nd,rfl⟩⟩))
   go_meet
   case rel => exact ⟨_,(false),(by first|rfl|(simp;done)|(simp [*];done)),H',⟨by first|omega|exact Nat.le_refl _⟩,⟨by (with_reducible repeat (first|refine a_l ?_ _|refine a_m ?_|refine a_j ?_ _));exact a_1.out⟩,⟨by repeat (first|(with_reducible first|exact HB.out|apply a_g|apply a_e|apply a_h|refine a_f ?_ j_g.out)|exact HB.out)⟩⟩
  subst c9
  have H1 : ((a_K.f a0_3 0 3).bind fun t105 => (a_X.j0 k t105 a0_0 a0_1 a0_2 a0_3 a0_4 a0_5 a0_6 a0_7 a0_8 a0_9 a0_10)) = some r:=by rw [if_pos rfl] at H;exact H
  clear H
  have H:=H1
  clear H1
  replace H:=Option.bind_eq_some_iff.mp H
  obtain ⟨t105,A100,H⟩:=H
  replace H : (a_X.j0 k t105 a0_0 a0_1 a0_2 a0_3 a0_4 a0_5 a0_6 a0_7 a0_8 a0_9 a0_10) = some r:=H
  have A10:=a_d.mk A100
  clear A100
  have H':=a_d.mk H
  clear H
  have l_p : w3.cell? ⟨b_v,0,none⟩ = some (.int .i64 a0_0):=(a_a a_1.out 0).trans rfl
  have l_q : w3.cell? ⟨b_v,1,none⟩ = some (.int .i64 a0_1):=(a_a a_1.out 1).trans rfl
  have t_F : w3.cell? ⟨b_v,2,none⟩ = some (.int .i64 a0_2):=(a_a a_1.out 2).trans rfl
  have t_G : w3.cell? ⟨b_v,3,none⟩ = some (.int .i64 a0_3):=(a_a a_1.out 3).trans rfl
  have t_H : w3.cell? ⟨b_v,4,none⟩ = some (.int .i64 a0_4):=(a_a a_1.out 4).trans rfl
  have t_I : w3.cell? ⟨b_v,5,none⟩ = some (.bool a0_5):=(a_a a_1.out 5).trans rfl
  have t_J : w3.cell? ⟨b_v,6,none⟩ = some (.bool a0_6):=(a_a a_1.out 6).trans rfl
  have t_K : w3.cell? ⟨b_v,7,none⟩ = some (.int .u32 a0_7):=(a_a a_1.out 7).trans rfl
  have t_L : w3.cell? ⟨b_v,8,none⟩ = some (.int .i64 a0_8):=(a_a a_1.out 8).trans rfl
  have t_M : w3.cell? ⟨b_v,9,none⟩ = some (.int .i64 a0_9):=(a_a a_1.out 9).trans rfl
  have r_m : w3.cell? ⟨b_v,10,none⟩ = some (.int .i64 a0_10):=(a_a a_1.out 10).trans rfl
  have l_r:=a_b a_1.out 0
  have h_Q:=a_b a_1.out 1
  have t_N:=a_b a_1.out 2
  have t_O:=a_b a_1.out 3
  have t_P:=a_b a_1.out 4
  have t_Q:=a_b a_1.out 5
  have t_R:=a_b a_1.out 6
  have t_S:=a_b a_1.out 7
  have t_T:=a_b a_1.out 8
  have t_U:=a_b a_1.out 9
  have r_n:=a_b a_1.out 10
  go_wp2_with (first|((with_reducible refine b_a (f:=80) rfl ?_);refine c_v (some 6) rfl rfl Try.func80 (by kernel_rfl) rfl #[.int .i64 a0_0,.int .i64 1,.int .i64 16] rfl (by (try simp only [List.map_toArray,List.map_cons,List.map_nil]);first|done|rfl|(simp only [List.length_drop,List.length_take];rfl)) ?_;(with_reducible refine (a_K.calls a0_0 1 16 true _ A4.out).mono ?_);rintro e w' ⟨rfl,⟨nd,rfl⟩⟩;refine ⟨_,rfl,?_⟩)|(go_at_call 80;(with_reducible refine (a_K.calls a0_1 1 8 true _ A6.out).mono ?_);rintro e w' ⟨rfl,⟨nd,rfl⟩⟩)|(go_at_call 80;(with_reducible refine (a_K.calls a0_2 0 8 true _ A8.out).mono ?_);rintro e w' ⟨rfl,⟨nd,rfl⟩⟩)|(go_at_call 80;(with_reducible refine (a_K.calls a0_3 0 3 t105 _ A10.out).mono ?_);rintro e w' ⟨rfl,⟨nd,rfl⟩⟩))
  go_meet
  case rel => exact ⟨_,(t105),(by first|rfl|(simp;done)|(simp [*];done)),H',⟨by first|omega|exact Nat.le_refl _⟩,⟨by (with_reducible repeat (first|refine a_l ?_ _|refine a_m ?_|refine a_j ?_ _));exact a_1.out⟩,⟨by repeat (first|(with_reducible first|exact HB.out|apply a_g|apply a_e|apply a_h|refine a_f ?_ j_g.out)|exact HB.out)⟩⟩
 case rest =>
  clear HC2
  try clear p2
  try clear c5
  try clear c7
  try clear c8
  try clear c9
  try clear l_p
  try clear l_q
  try clear r_m
  try clear t_F
  try clear t_G
  try clear t_H
  try clear t_I
  try clear t_J
  try clear t_K
  try clear t_L
  try clear t_M
  try clear e_0
  try clear e_1
  try clear j_X
  try clear l_z
  try clear l_A
  try clear l_B
  try clear l_C
  try clear l_D
  try clear l_E
  try clear l_F
  try clear l_G
  try clear g_W
  try clear g_X
  try clear j_C
  try clear k_8
  try clear k_9
  try clear l_a
  try clear l_b
  try clear l_d
  try clear l_e
  try clear l_f
  try clear l_g
  try clear i_a
  try clear i_b
  try clear g_O
  try clear i_d
  try clear i_e
  try clear i_f
  try clear i_g
  try clear i_h
  try clear i_i
  try clear i_j
  try clear i_k
  try clear l_r
  try clear h_Q
  try clear r_n
  try clear t_N
  try clear t_O
  try clear t_P
  try clear t_Q
  try clear t_R
  try clear t_S
  try clear t_T
  try clear t_U
  try clear e_2
  try clear e_3
  try clear j_Y
  try clear l_H
  try clear l_I
  try clear l_J
  try clear l_K
  try clear l_L
  try clear l_M
  try clear l_N
  try clear l_O
  try clear g_Y
  try clear g_Z
  try clear j_D
  try clear l_h
  try clear l_i
  try clear l_j
  try clear l_k
  try clear l_l
  try clear l_m
  try clear l_n
  try clear l_o
  try clear i_l
  try clear i_m
  try clear g_P
  try clear i_n
  try clear i_o
  try clear i_p
  try clear i_q
  try clear i_r
  try clear i_s
  try clear i_t
  try clear i_u
  obtain ⟨kq,x3_1,rfl,HA,HJ1,a_1,HB⟩:=hcut
  cases kq with
  | zero => exact absurd HA.out (by simp [a_X.j0])
  | succ kj1 =>
   have H:=HA.out
   clear HA
   simp only [a_X.j0] at H
   by_cases c15 : x3_1 = true
   rotate_left
   ·replace c15:=Bool.eq_false_iff.mpr c15
    subst c15
    have H1 : (some false) = some r:=by rw [if_neg (show ¬ (false = true) by decide)] at H;exact H
    clear H
    have H:=H1
    clear H1
    obtain rfl:=Option.some.inj H
    go_wp2
    go_ret
    exact ⟨by first|rfl|(simp [a_w,a_x] <;> rfl)|(simp [*, a_w,a_x] <;> rfl),by repeat (first|(with_reducible first|exact HB.out|apply a_g|apply a_e|apply a_h|refine a_f ?_ j_g.out)|exact HB.out)⟩
   subst c15
   have H1 : ((a_K.f a0_4 (-1) 7).bind fun t106 => (if t106 = true then ((c_o.f a0_7).bind fun t107 => (if t107 = 0 then ((a_K.f a0_8 1 65535).bind fun t108 => (if t108 = true then ((a_K.f a0_9 1 8).bind fun t109 => (if t109 = true then ((a_K.f a0_10 0 800).bind fun t110 => (some t110)) else (some false))) else (some false))) else (some false))) else (some false))) = some r:=by rw [if_pos rfl] at H;exact H
   clear H
   have H:=H1
   clear H1
   replace H:=Option.bind_eq_some_iff.mp H
   obtain ⟨t106,A160,H⟩:=H
   replace H : (if t106 = true then ((c_o.f a0_7).bind fun t107 => (if t107 = 0 then ((a_K.f a0_8 1 65535).bind fun t108 => (if t108 = true then ((a_K.f a0_9 1 8).bind fun t109 => (if t109 = true then ((a_K.f a0_10 0 800).bind fun t110 => (some t110)) else (some false))) else (some false))) else (some false))) else (some false)) = some r:=H
   have A16:=a_d.mk A160
   clear A160
   by_cases c17 : t106 = true
   rotate_left
   ·replace c17:=Bool.eq_false_iff.mpr c17
    subst c17
    have H1 : (some false) = some r:=by rw [if_neg (show ¬ (false = true) by decide)] at H;exact H
    clear H
    have H:=H1
    clear H1
    obtain rfl:=Option.some.inj H
    have g_0 : wc.cell? ⟨b_v,0,none⟩ = some (.int .i64 a0_0):=(a_a a_1.out 0).trans rfl
    have g_1 : wc.cell? ⟨b_v,1,none⟩ = some (.int .i64 a0_1):=(a_a a_1.out 1).trans rfl
    have D_k : wc.cell? ⟨b_v,2,none⟩ = some (.int .i64 a0_2):=(a_a a_1.out 2).trans rfl
    have D_l : wc.cell? ⟨b_v,3,none⟩ = some (.int .i64 a0_3):=(a_a a_1.out 3).trans rfl
    have D_m : wc.cell? ⟨b_v,4,none⟩ = some (.int .i64 a0_4):=(a_a a_1.out 4).trans rfl
    have D_n : wc.cell? ⟨b_v,5,none⟩ = some (.bool a0_5):=(a_a a_1.out 5).trans rfl
    have D_o : wc.cell? ⟨b_v,6,none⟩ = some (.bool a0_6):=(a_a a_1.out 6).trans rfl
    have D_p : wc.cell? ⟨b_v,7,none⟩ = some (.int .u32 a0_7):=(a_a a_1.out 7).trans rfl
    have D_q : wc.cell? ⟨b_v,8,none⟩ = some (.int .i64 a0_8):=(a_a a_1.out 8).trans rfl
    have D_r : wc.cell? ⟨b_v,9,none⟩ = some (.int .i64 a0_9):=(a_a a_1.out 9).trans rfl
    have w_O : wc.cell? ⟨b_v,10,none⟩ = some (.int .i64 a0_10):=(a_a a_1.out 10).trans rfl
    have g_2:=a_b a_1.out 0
    have g_3:=a_b a_1.out 1
    have D_s:=a_b a_1.out 2
    have D_t:=a_b a_1.out 3
    have D_u:=a_b a_1.out 4
    have D_v:=a_b a_1.out 5
    have D_w:=a_b a_1.out 6
    have D_x:=a_b a_1.out 7
    have D_y:=a_b a_1.out 8
    have D_z:=a_b a_1.out 9
    have w_P:=a_b a_1.out 10
    go_wp2_with (first|(go_at_call 80;(with_reducible refine (a_K.calls a0_4 (-1) 7 false _ A16.out).mono ?_);rintro e w' ⟨rfl,⟨nd,rfl⟩⟩))
    go_ret
    exact ⟨by first|rfl|(simp [a_w,a_x] <;> rfl)|(simp [*, a_w,a_x] <;> rfl),by repeat (first|(with_reducible first|exact HB.out|apply a_g|apply a_e|apply a_h|refine a_f ?_ j_g.out)|exact HB.out)⟩
   subst c17
   have H1 : ((c_o.f a0_7).bind fun t107 => (if t107 = 0 then ((a_K.f a0_8 1 65535).bind fun t108 => (if t108 = true then ((a_K.f a0_9 1 8).bind fun t109 => (if t109 = true then ((a_K.f a0_10 0 800).bind fun t110 => (some t110)) else (some false))) else (some false))) else (some false))) = some r:=by rw [if_pos rfl] at H;exact H
   clear H
   have H:=H1
   clear H1
   replace H:=Option.bind_eq_some_iff.mp H
   obtain ⟨t107,A180,H⟩:=H
   replace H : (if t107 = 0 then ((a_K.f a0_8 1 65535).bind fun t108 => (if t108 = true then ((a_K.f a0_9 1 8).bind fun t109 => (if t109 = true then ((a_K.f a0_10 0 800).bind fun t110 => (some t110)) else (some false))) else (some false))) else (some false)) = some r:=H
   have A18:=a_d.mk A180
   clear A180
   by_cases c19 : t107 = 0
   rotate_left
   ·rw [if_neg c19] at H
    have c19b0 : (t107 == 0) = false:=beq_eq_false_iff_ne.mpr c19
    have c19b1 : (t107 != 0) = true:=bne_iff_ne.mpr c19
    obtain rfl:=Option.some.inj H
    have h_M : wc.cell? ⟨b_v,0,none⟩ = some (.int .i64 a0_0):=(a_a a_1.out 0).trans rfl
    have h_N : wc.cell? ⟨b_v,1,none⟩ = some (.int .i64 a0_1):=(a_a a_1.out 1).trans rfl
    have p_a : wc.cell? ⟨b_v,2,none⟩ = some (.int .i64 a0_2):=(a_a a_1.out 2).trans rfl
    have p_b : wc.cell? ⟨b_v,3,none⟩ = some (.int .i64 a0_3):=(a_a a_1.out 3).trans rfl
    have p_c : wc.cell? ⟨b_v,4,none⟩ = some (.int .i64 a0_4):=(a_a a_1.out 4).trans rfl
    have p_d : wc.cell? ⟨b_v,5,none⟩ = some (.bool a0_5):=(a_a a_1.out 5).trans rfl
    have p_e : wc.cell? ⟨b_v,6,none⟩ = some (.bool a0_6):=(a_a a_1.out 6).trans rfl
    have p_f : wc.cell? ⟨b_v,7,none⟩ = some (.int .u32 a0_7):=(a_a a_1.out 7).trans rfl
    have p_g : wc.cell? ⟨b_v,8,none⟩ = some (.int .i64 a0_8):=(a_a a_1.out 8).trans rfl
    have p_h : wc.cell? ⟨b_v,9,none⟩ = some (.int .i64 a0_9):=(a_a a_1.out 9).trans rfl
    have m_M : wc.cell? ⟨b_v,10,none⟩ = some (.int .i64 a0_10):=(a_a a_1.out 10).trans rfl
    have h_O:=a_b a_1.out 0
    have h_P:=a_b a_1.out 1
    have p_i:=a_b a_1.out 2
    have p_j:=a_b a_1.out 3
    have p_k:=a_b a_1.out 4
    have p_l:=a_b a_1.out 5
    have p_m:=a_b a_1.out 6
    have p_n:=a_b a_1.out 7
    have p_o:=a_b a_1.out 8
    have p_p:=a_b a_1.out 9
    have m_N:=a_b a_1.out 10
    go_wp2_with (first|(go_at_call 80;(with_reducible refine (a_K.calls a0_4 (-1) 7 true _ A16.out).mono ?_);rintro e w' ⟨rfl,⟨nd,rfl⟩⟩)|(go_at_call 81;(with_reducible refine (c_o.calls a0_7 t107 _ A18.out).mono ?_);rintro e w' ⟨rfl,⟨nd,rfl⟩⟩))
    go_ret
    exact ⟨by first|rfl|(simp [a_w,a_x] <;> rfl)|(simp [*, a_w,a_x] <;> rfl),by repeat (first|(with_reducible first|exact HB.out|apply a_g|apply a_e|apply a_h|refine a_f ?_ j_g.out)|exact HB.out)⟩
   rw [if_pos c19] at H
   have c19b0 : (t107 == 0) = true:=beq_iff_eq.mpr c19
   have c19b1 : (t107 != 0) = false:=bne_eq_false_iff_eq.mpr c19
   clear c19
   replace H:=Option.bind_eq_some_iff.mp H
   obtain ⟨t108,A200,H⟩:=H
   replace H : (if t108 = true then ((a_K.f a0_9 1 8).bind fun t109 => (if t109 = true then ((a_K.f a0_10 0 800).bind fun t110 => (some t110)) else (some false))) else (some false)) = some r:=H
   have A20:=a_d.mk A200
   clear A200
   by_cases c21 : t108 = true
   rotate_left
   ·replace c21:=Bool.eq_false_iff.mpr c21
    subst c21
    have H1 : (some false) = some r:=by rw [if_neg (show ¬ (false = true) by decide)] at H;exact H
    clear H
    have H:=H1
    clear H1
    obtain rfl:=Option.some.inj H
    have g_i : wc.cell? ⟨b_v,0,none⟩ = some (.int .i64 a0_0):=(a_a a_1.out 0).trans rfl
    have g_j : wc.cell? ⟨b_v,1,none⟩ = some (.int .i64 a0_1):=(a_a a_1.out 1).trans rfl
    have D_A : wc.cell? ⟨b_v,2,none⟩ = some (.int .i64 a0_2):=(a_a a_1.out 2).trans rfl
    have D_B : wc.cell? ⟨b_v,3,none⟩ = some (.int .i64 a0_3):=(a_a a_1.out 3).trans rfl
    have D_C : wc.cell? ⟨b_v,4,none⟩ = some (.int .i64 a0_4):=(a_a a_1.out 4).trans rfl
    have D_D : wc.cell? ⟨b_v,5,none⟩ = some (.bool a0_5):=(a_a a_1.out 5).trans rfl
    have D_E : wc.cell? ⟨b_v,6,none⟩ = some (.bool a0_6):=(a_a a_1.out 6).trans rfl
    have D_F : wc.cell? ⟨b_v,7,none⟩ = some (.int .u32 a0_7):=(a_a a_1.out 7).trans rfl
    have D_G : wc.cell? ⟨b_v,8,none⟩ = some (.int .i64 a0_8):=(a_a a_1.out 8).trans rfl
    have D_H : wc.cell? ⟨b_v,9,none⟩ = some (.int .i64 a0_9):=(a_a a_1.out 9).trans rfl
    have w_Q : wc.cell? ⟨b_v,10,none⟩ = some (.int .i64 a0_10):=(a_a a_1.out 10).trans rfl
    have g_k:=a_b a_1.out 0
    have g_l:=a_b a_1.out 1
    have D_I:=a_b a_1.out 2
    have D_J:=a_b a_1.out 3
    have D_K:=a_b a_1.out 4
    have D_L:=a_b a_1.out 5
    have D_M:=a_b a_1.out 6
    have D_N:=a_b a_1.out 7
    have D_O:=a_b a_1.out 8
    have D_P:=a_b a_1.out 9
    have w_R:=a_b a_1.out 10
    go_wp2_with (first|(go_at_call 80;(with_reducible refine (a_K.calls a0_4 (-1) 7 true _ A16.out).mono ?_);rintro e w' ⟨rfl,⟨nd,rfl⟩⟩)|(go_at_call 81;(with_reducible refine (c_o.calls a0_7 t107 _ A18.out).mono ?_);rintro e w' ⟨rfl,⟨nd,rfl⟩⟩)|(go_at_call 80;(with_reducible refine (a_K.calls a0_8 1 65535 false _ A20.out).mono ?_);rintro e w' ⟨rfl,⟨nd,rfl⟩⟩))
    go_ret
    exact ⟨by first|rfl|(simp [a_w,a_x] <;> rfl)|(simp [*, a_w,a_x] <;> rfl),by repeat (first|(with_reducible first|exact HB.out|apply a_g|apply a_e|apply a_h|refine a_f ?_ j_g.out)|exact HB.out)⟩
   subst c21
   have H1 : ((a_K.f a0_9 1 8).bind fun t109 => (if t109 = true then ((a_K.f a0_10 0 800).bind fun t110 => (some t110)) else (some false))) = some r:=by rw [if_pos rfl] at H;exact H
   clear H
   have H:=H1
   clear H1
   replace H:=Option.bind_eq_some_iff.mp H
   obtain ⟨t109,A220,H⟩:=H
   replace H : (if t109 = true then ((a_K.f a0_10 0 800).bind fun t110 => (some t110)) else (some false)) = some r:=H
   have A22:=a_d.mk A220
   clear A220
   by_cases c23 : t109 = true
   rotate_left
   ·replace c23:=Bool.eq_false_iff.mpr c23
    subst c23
    have H1 : (some false) = some r:=by rw [if_neg (show ¬ (false = true) by decide)] at H;exact H
    clear H
    have H:=H1
    clear H1
    obtain rfl:=Option.some.inj H
    have f_B : wc.cell? ⟨b_v,0,none⟩ = some (.int .i64 a0_0):=(a_a a_1.out 0).trans rfl
    have f_C : wc.cell? ⟨b_v,1,none⟩ = some (.int .i64 a0_1):=(a_a a_1.out 1).trans rfl
    have D_Q : wc.cell? ⟨b_v,2,none⟩ = some (.int .i64 a0_2):=(a_a a_1.out 2).trans rfl
    have D_R : wc.cell? ⟨b_v,3,none⟩ = some (.int .i64 a0_3):=(a_a a_1.out 3).trans rfl
    have D_S : wc.cell? ⟨b_v,4,none⟩ = some (.int .i64 a0_4):=(a_a a_1.out 4).trans rfl
    have D_T : wc.cell? ⟨b_v,5,none⟩ = some (.bool a0_5):=(a_a a_1.out 5).trans rfl
    have D_U : wc.cell? ⟨b_v,6,none⟩ = some (.bool a0_6):=(a_a a_1.out 6).trans rfl
    have D_V : wc.cell? ⟨b_v,7,none⟩ = some (.int .u32 a0_7):=(a_a a_1.out 7).trans rfl
    have D_W : wc.cell? ⟨b_v,8,none⟩ = some (.int .i64 a0_8):=(a_a a_1.out 8).trans rfl
    have D_X : wc.cell? ⟨b_v,9,none⟩ = some (.int .i64 a0_9):=(a_a a_1.out 9).trans rfl
    have w_S : wc.cell? ⟨b_v,10,none⟩ = some (.int .i64 a0_10):=(a_a a_1.out 10).trans rfl
    have f_D:=a_b a_1.out 0
    have f_E:=a_b a_1.out 1
    have D_Y:=a_b a_1.out 2
    have D_Z:=a_b a_1.out 3
    have D_0:=a_b a_1.out 4
    have D_1:=a_b a_1.out 5
    have D_2:=a_b a_1.out 6
    have D_3:=a_b a_1.out 7
    have D_4:=a_b a_1.out 8
    have D_5:=a_b a_1.out 9
    have w_T:=a_b a_1.out 10
    go_wp2_with (first|(go_at_call 80;(with_reducible refine (a_K.calls a0_4 (-1) 7 true _ A16.out).mono ?_);rintro e w' ⟨rfl,⟨nd,rfl⟩⟩)|(go_at_call 81;(with_reducible refine (c_o.calls a0_7 t107 _ A18.out).mono ?_);rintro e w' ⟨rfl,⟨nd,rfl⟩⟩)|(go_at_call 80;(with_reducible refine (a_K.calls a0_8 1 65535 true _ A20.out).mono ?_);rintro e w' ⟨rfl,⟨nd,rfl⟩⟩)|(go_at_call 80;(with_reducible refine (a_K.calls a0_9 1 8 false _ A22.out).mono ?_);rintro e w' ⟨rfl,⟨nd,rfl⟩⟩))
    go_ret
    exact ⟨by first|rfl|(simp [a_w,a_x] <;> rfl)|(simp [*, a_w,a_x] <;> rfl),by repeat (first|(with_reducible first|exact HB.out|apply a_g|apply a_e|apply a_h|refine a_f ?_ j_g.out)|exact HB.out)⟩
   subst c23
   have H1 : ((a_K.f a0_10 0 800).bind fun t110 => (some t110)) = some r:=by rw [if_pos rfl] at H;exact H
   clear H
   have H:=H1
   clear H1
   replace H:=Option.bind_eq_some_iff.mp H
   obtain ⟨t110,A240,H⟩:=H
   replace H : (some t110) = some r:=H
   have A24:=a_d.mk A240
   clear A240
   obtain rfl:=Option.some.inj H
   have o_Q : wc.cell? ⟨b_v,0,none⟩ = some (.int .i64 a0_0):=(a_a a_1.out 0).trans rfl
   have o_R : wc.cell? ⟨b_v,1,none⟩ = some (.int .i64 a0_1):=(a_a a_1.out 1).trans rfl
   have o_S : wc.cell? ⟨b_v,2,none⟩ = some (.int .i64 a0_2):=(a_a a_1.out 2).trans rfl
   have o_T : wc.cell? ⟨b_v,3,none⟩ = some (.int .i64 a0_3):=(a_a a_1.out 3).trans rfl
   have o_U : wc.cell? ⟨b_v,4,none⟩ = some (.int .i64 a0_4):=(a_a a_1.out 4).trans rfl
   have o_V : wc.cell? ⟨b_v,5,none⟩ = some (.bool a0_5):=(a_a a_1.out 5).trans rfl
   have o_W : wc.cell? ⟨b_v,6,none⟩ = some (.bool a0_6):=(a_a a_1.out 6).trans rfl
   have o_X : wc.cell? ⟨b_v,7,none⟩ = some (.int .u32 a0_7):=(a_a a_1.out 7).trans rfl
   have o_Y : wc.cell? ⟨b_v,8,none⟩ = some (.int .i64 a0_8):=(a_a a_1.out 8).trans rfl
   have o_Z : wc.cell? ⟨b_v,9,none⟩ = some (.int .i64 a0_9):=(a_a a_1.out 9).trans rfl
   have m_K : wc.cell? ⟨b_v,10,none⟩ = some (.int .i64 a0_10):=(a_a a_1.out 10).trans rfl
   have o_0:=a_b a_1.out 0
   have o_1:=a_b a_1.out 1
   have o_2:=a_b a_1.out 2
   have o_3:=a_b a_1.out 3
   have o_4:=a_b a_1.out 4
   have o_5:=a_b a_1.out 5
   have o_6:=a_b a_1.out 6
   have o_7:=a_b a_1.out 7
   have o_8:=a_b a_1.out 8
   have o_9:=a_b a_1.out 9
   have m_L:=a_b a_1.out 10
   go_wp2_with (first|(go_at_call 80;(with_reducible refine (a_K.calls a0_4 (-1) 7 true _ A16.out).mono ?_);rintro e w' ⟨rfl,⟨nd,rfl⟩⟩)|(go_at_call 81;(with_reducible refine (c_o.calls a0_7 t107 _ A18.out).mono ?_);rintro e w' ⟨rfl,⟨nd,rfl⟩⟩)|(go_at_call 80;(with_reducible refine (a_K.calls a0_8 1 65535 true _ A20.out).mono ?_);rintro e w' ⟨rfl,⟨nd,rfl⟩⟩)|(go_at_call 80;(with_reducible refine (a_K.calls a0_9 1 8 true _ A22.out).mono ?_);rintro e w' ⟨rfl,⟨nd,rfl⟩⟩)|(go_at_call 80;(with_reducible refine (a_K.calls a0_10 0 800 t110 _ A24.out).mono ?_);rintro e w' ⟨rfl,⟨nd,rfl⟩⟩))
   go_ret
   exact ⟨by first|rfl|(simp [a_w,a_x] <;> rfl)|(simp [*, a_w,a_x] <;> rfl),by repeat (first|(with_reducible first|exact HB.out|apply a_g|apply a_e|apply a_h|refine a_f ?_ j_g.out)|exact HB.out)⟩
end Go.Proofs.Ytgglkfilkagblaa.Q
end
