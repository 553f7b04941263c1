/- Part 4 of 13 of what the row of AuditMoments stands on: contracts over the given program's functions, the plain law, the row; no condition beyond those that each theorem states. -/
import Derived.Test.YtgglkfilkagblaaDoorXAuditMoments2
section
namespace Go.Proofs.YtgglkfilkagblaaDoor.Q
open Go.RowKit Go.Proofs.YtgglkfilkagblaaDoorW.PrintWords Go.Proofs.YtgglkfilkagblaaDoorW.PrintLast Go.Proofs.YtgglkfilkagblaaDoorW.PrintMore
set_option linter.unusedVariables false
set_option linter.unusedSimpArgs false
def a_R.j0 : Nat → Bool → Int → Int → Int → Int → Int → Bool → Bool → Int → Int → Int → Int → Option (Bool)
 | 0,_,_,_,_,_,_,_,_,_,_,_,_ => none
 | k + 1,x3,x102000,x102001,x102002,x102003,x102004,x102005,x102006,x102007,x102008,x102009,x102010 => if x3 = true then ((a_F.f x102004 (-1) 7).bind fun t106 => (if t106 = true then ((c_w.f x102007).bind fun t107 => (if t107 = 0 then ((a_F.f x102008 1 65535).bind fun t108 => (if t108 = true then ((a_F.f x102009 1 8).bind fun t109 => (if t109 = true then ((a_F.f x102010 0 800).bind fun t110 => (some t110)) else (some false))) else (some false))) else (some false))) else (some false))) else (some false)
def a_R.f (k : Nat) (a0_0 : Int) (a0_1 : Int) (a0_2 : Int) (a0_3 : Int) (a0_4 : Int) (a0_5 : Bool) (a0_6 : Bool) (a0_7 : Int) (a0_8 : Int) (a0_9 : Int) (a0_10 : Int) : Option (Bool):=(a_F.f a0_0 1 16).bind fun t102 => (if t102 = true then ((a_F.f a0_1 1 8).bind fun t103 => (if t103 = true then ((a_F.f a0_2 0 8).bind fun t104 => (if t104 = true then ((a_F.f a0_3 0 3).bind fun t105 => (a_R.j0 k t105 a0_0 a0_1 a0_2 a0_3 a0_4 a0_5 a0_6 a0_7 a0_8 a0_9 a0_10)) else (a_R.j0 k false a0_0 a0_1 a0_2 a0_3 a0_4 a0_5 a0_6 a0_7 a0_8 a0_9 a0_10))) else (a_R.j0 k false a0_0 a0_1 a0_2 a0_3 a0_4 a0_5 a0_6 a0_7 a0_8 a0_9 a0_10))) else (a_R.j0 k false a0_0 a0_1 a0_2 a0_3 a0_4 a0_5 a0_6 a0_7 a0_8 a0_9 a0_10))
theorem a_R.c_F : ∀ k,(∀ y0 y1 y2 y3 y4 y5 y6 y7 y8 y9 y10 y11,LeO (a_R.j0 k y0 y1 y2 y3 y4 y5 y6 y7 y8 y9 y10 y11) (a_R.j0 (k + 1) y0 y1 y2 y3 y4 y5 y6 y7 y8 y9 y10 y11))
 | 0 => fun _ _ _ _ _ _ _ _ _ _ _ _ r h => by simp [a_R.j0] at h
 | k + 1 => by
  have ih0:=a_R.c_F k
  ·intro y0 y1 y2 y3 y4 y5 y6 y7 y8 y9 y10 y11
   unfold a_R.j0
   repeat' first
   | (with_reducible exact ih0 _ _ _ _ _ _ _ _ _ _ _ _)
   | (with_reducible exact LeO.refl _)
   | (with_reducible exact LeO.none _)
   | (with_reducible refine LeO.ite ?_ ?_)
   | (with_reducible refine LeO.bind ?_ (fun _ => ?_))
   | exact ih0 _ _ _ _ _ _ _ _ _ _ _ _
   | exact LeO.none _
   | refine LeO.ite ?_ ?_
   | refine LeO.bind ?_ (fun _ => ?_)
theorem a_R.mono : ∀ a0 a1 a2 a3 a4 a5 a6 a7 a8 a9 a10 k,LeO (a_R.f k a0 a1 a2 a3 a4 a5 a6 a7 a8 a9 a10) (a_R.f (k + 1) a0 a1 a2 a3 a4 a5 a6 a7 a8 a9 a10):=by
 intro a0 a1 a2 a3 a4 a5 a6 a7 a8 a9 a10 k
 have ih0:=a_R.c_F k
 unfold a_R.f
 repeat' first
  | (with_reducible exact ih0 _ _ _ _ _ _ _ _ _ _ _ _)
  | (with_reducible exact LeO.refl _)
  | (with_reducible exact LeO.none _)
  | (with_reducible refine LeO.ite ?_ ?_)
  | (with_reducible refine LeO.bind ?_ (fun _ => ?_))
  | exact ih0 _ _ _ _ _ _ _ _ _ _ _ _
  | exact LeO.none _
  | refine LeO.ite ?_ ?_
  | refine LeO.bind ?_ (fun _ => ?_)
set_option maxHeartbeats 8000000 in
set_option maxRecDepth 100000 in
theorem a_R.calls (k : Nat) (a0_0 : Int) (a0_1 : Int) (a0_2 : Int) (a0_3 : Int) (a0_4 : Int) (a0_5 : Bool) (a0_6 : Bool) (a0_7 : Int) (a0_8 : Int) (a0_9 : Int) (a0_10 : Int) (r : Bool) (w : World) (h : a_R.f k a0_0 a0_1 a0_2 a0_3 a0_4 a0_5 a0_6 a0_7 a0_8 a0_9 a0_10 = some r) :
 Calls Tryd.prog 35 #[.agg #[.int .i64 a0_0,.int .i64 a0_1,.int .i64 a0_2,.int .i64 a0_3,.int .i64 a0_4,.bool a0_5,.bool a0_6,.int .u32 a0_7,.int .i64 a0_8,.int .i64 a0_9,.int .i64 a0_10]] w fun e w' => e = .returned (.bool r) ∧ Below w.heap.size w w':=by
 have hu33:=Tryd.underlying33
 have HB:=a_g.mk (Below.refl w.heap.size w)
 have H : ((a_F.f a0_0 1 16).bind fun t102 => (if t102 = true then ((a_F.f a0_1 1 8).bind fun t103 => (if t103 = true then ((a_F.f a0_2 0 8).bind fun t104 => (if t104 = true then ((a_F.f a0_3 0 3).bind fun t105 => (a_R.j0 k t105 a0_0 a0_1 a0_2 a0_3 a0_4 a0_5 a0_6 a0_7 a0_8 a0_9 a0_10)) else (a_R.j0 k false a0_0 a0_1 a0_2 a0_3 a0_4 a0_5 a0_6 a0_7 a0_8 a0_9 a0_10))) else (a_R.j0 k false a0_0 a0_1 a0_2 a0_3 a0_4 a0_5 a0_6 a0_7 a0_8 a0_9 a0_10))) else (a_R.j0 k false a0_0 a0_1 a0_2 a0_3 a0_4 a0_5 a0_6 a0_7 a0_8 a0_9 a0_10))) = some r:=h
 clear h
 have HC2:=a_g.mk H
 clear H
 go_enter Tryd.func35,Tryd.ntmps35
 go_upto_region 1 with (first|((with_reducible refine a_G (N:=1) rfl ?_);refine a_C ?hg (N:=1) ?hd (cs:=#[.int .i64 a0_0,.int .i64 a0_1,.int .i64 a0_2,.int .i64 a0_3,.int .i64 a0_4,.bool a0_5,.bool a0_6,.int .u32 a0_7,.int .i64 a0_8,.int .i64 a0_9,.int .i64 a0_10]) (t:=33) ?hr ?_;(case hd => rfl);(case hg => rfl);(case hr => first|(go_simp;done)|(go_simp;rfl));intro b_u hg w3 hbox hb;have a_U:=a_g.mk (hbox);have I_g:=a_g.mk ((by rw [hg];exact (a_n (lup_ HB.out)) : w.heap.size ≤ b_u));have j_v:=a_g.mk ((by rw [hg];exact (a_n (lup_ HB.out)) : w.heap.size ≤ b_u));replace HB:=a_g.mk (a_p (lup_ HB.out) hb);clear hb hbox hg))
 (try simp only [Act.put,sa_,sb_,sc_])
 go_cut [3] (fun v3 wc => ∃ (kq : Nat) (x3_1 : Bool),v3 = .bool x3_1 ∧ a_g (a_R.j0 kq x3_1 a0_0 a0_1 a0_2 a0_3 a0_4 a0_5 a0_6 a0_7 a0_8 a0_9 a0_10 = some r) ∧ a_g (kq ≤ k) ∧ a_g (wc.heap[b_u]? = some (.cells #[.int .i64 a0_0,.int .i64 a0_1,.int .i64 a0_2,.int .i64 a0_3,.int .i64 a0_4,.bool a0_5,.bool a0_6,.int .u32 a0_7,.int .i64 a0_8,.int .i64 a0_9,.int .i64 a0_10] 33 (0,0))) ∧ a_g (Below w.heap.size w wc))
 case first =>
  have H:=HC2.out
  clear HC2
  replace H:=Option.bind_eq_some_iff.mp H
  obtain ⟨t102,A40,H⟩:=H
  replace H : (if t102 = true then ((a_F.f a0_1 1 8).bind fun t103 => (if t103 = true then ((a_F.f a0_2 0 8).bind fun t104 => (if t104 = true then ((a_F.f a0_3 0 3).bind fun t105 => (a_R.j0 k t105 a0_0 a0_1 a0_2 a0_3 a0_4 a0_5 a0_6 a0_7 a0_8 a0_9 a0_10)) else (a_R.j0 k false a0_0 a0_1 a0_2 a0_3 a0_4 a0_5 a0_6 a0_7 a0_8 a0_9 a0_10))) else (a_R.j0 k false a0_0 a0_1 a0_2 a0_3 a0_4 a0_5 a0_6 a0_7 a0_8 a0_9 a0_10))) else (a_R.j0 k false a0_0 a0_1 a0_2 a0_3 a0_4 a0_5 a0_6 a0_7 a0_8 a0_9 a0_10)) = some r:=H
  have A4:=a_g.mk A40
  clear A40
  by_cases c5 : t102 = true
  rotate_left
  ·replace c5:=Bool.eq_false_iff.mpr c5
   subst c5
   have H1 : (a_R.j0 k false a0_0 a0_1 a0_2 a0_3 a0_4 a0_5 a0_6 a0_7 a0_8 a0_9 a0_10) = some r:=by rw [if_neg (show ¬ (false = true) by decide)] at H;exact H
   clear H
   have H:=H1
   clear H1
   have H':=a_g.mk H
   clear H
   have f_y : w3.cell? ⟨b_u,0,none⟩ = some (.int .i64 a0_0):=(a_b a_U.out 0).trans rfl
   have f_z : w3.cell? ⟨b_u,1,none⟩ = some (.int .i64 a0_1):=(a_b a_U.out 1).trans rfl
   have f_A : w3.cell? ⟨b_u,2,none⟩ = some (.int .i64 a0_2):=(a_b a_U.out 2).trans rfl
   have f_B : w3.cell? ⟨b_u,3,none⟩ = some (.int .i64 a0_3):=(a_b a_U.out 3).trans rfl
   have f_C : w3.cell? ⟨b_u,4,none⟩ = some (.int .i64 a0_4):=(a_b a_U.out 4).trans rfl
   have f_D : w3.cell? ⟨b_u,5,none⟩ = some (.bool a0_5):=(a_b a_U.out 5).trans rfl
   have f_E : w3.cell? ⟨b_u,6,none⟩ = some (.bool a0_6):=(a_b a_U.out 6).trans rfl
   have f_F : w3.cell? ⟨b_u,7,none⟩ = some (.int .u32 a0_7):=(a_b a_U.out 7).trans rfl
   have f_G : w3.cell? ⟨b_u,8,none⟩ = some (.int .i64 a0_8):=(a_b a_U.out 8).trans rfl
   have f_H : w3.cell? ⟨b_u,9,none⟩ = some (.int .i64 a0_9):=(a_b a_U.out 9).trans rfl
   have e_P : w3.cell? ⟨b_u,10,none⟩ = some (.int .i64 a0_10):=(a_b a_U.out 10).trans rfl
   have f_I:=a_c a_U.out 0
   have f_J:=a_c a_U.out 1
   have f_K:=a_c a_U.out 2
   have f_L:=a_c a_U.out 3
   have f_M:=a_c a_U.out 4
   have f_N:=a_c a_U.out 5
   have f_O:=a_c a_U.out 6
   have f_P:=a_c a_U.out 7
   have f_Q:=a_c a_U.out 8
   have f_R:=a_c a_U.out 9
   have e_Q:=a_c a_U.out 10
   go_wp2_with (first|((with_reducible refine a_J (f:=45) rfl ?_);refine b_t (some 6) rfl rfl Tryd.func45 (by kernel_rfl) rfl #[.int .i64 a0_0,.int .i64 1,.int .i64 16] rfl (by (try simp only [List.map_toArray,List.map_cons,List.map_nil]);first|done|rfl|(simp only [List.length_drop,List.length_take];rfl)) ?_;(with_reducible refine (a_F.calls a0_0 1 16 false _ A4.out).mono ?_);rintro e w' ⟨rfl,⟨nd,rfl⟩⟩;refine ⟨_,rfl,?_⟩))
   go_meet
   case rel => exact ⟨_,(false),(by first|rfl|(simp;done)|(simp [*];done)),H',⟨by first|omega|exact Nat.le_refl _⟩,⟨by (with_reducible repeat (first|refine a_e ?_ _|refine a_h ?_|refine a_d ?_ _));exact a_U.out⟩,⟨by repeat (first|(with_reducible first|exact HB.out|apply a_j|apply a_f|apply a_k|refine a_i ?_ j_v.out)|exact HB.out)⟩⟩
  subst c5
  have H1 : ((a_F.f a0_1 1 8).bind fun t103 => (if t103 = true then ((a_F.f a0_2 0 8).bind fun t104 => (if t104 = true then ((a_F.f a0_3 0 3).bind fun t105 => (a_R.j0 k t105 a0_0 a0_1 a0_2 a0_3 a0_4 a0_5 a0_6 a0_7 a0_8 a0_9 a0_10)) else (a_R.j0 k false a0_0 a0_1 a0_2 a0_3 a0_4 a0_5 a0_6 a0_7 a0_8 a0_9 a0_10))) else (a_R.j0 k false a0_0 a0_1 a0_2 a0_3 a0_4 a0_5 a0_6 a0_7 a0_8 a0_9 a0_10))) = some r:=by rw [if_pos rfl] at H;exact H
  clear H
  have H:=H1
  clear H1
  replace H:=Option.bind_eq_some_iff.mp H
  obtain ⟨t103,A60,H⟩:=H
  replace H : (if t103 = true then ((a_F.f a0_2 0 8).bind fun t104 => (if t104 = true then ((a_F.f a0_3 0 3).bind fun t105 => (a_R.j0 k t105 a0_0 a0_1 a0_2 a0_3 a0_4 a0_5 a0_6 a0_7 a0_8 a0_9 a0_10)) else (a_R.j0 k false a0_0 a0_1 a0_2 a0_3 a0_4 a0_5 a0_6 a0_7 a0_8 a0_9 a0_10))) else (a_R.j0 k false a0_0 a0_1 a0_2 a0_3 a0_4 a0_5 a0_6 a0_7 a0_8 a0_9 a0_10)) = some r:=H
  have A6:=a_g.mk A60
  clear A60
  by_cases c7 : t103 = true
  rotate_left
  ·replace c7:=Bool.eq_false_iff.mpr c7
   subst c7
   have H1 : (a_R.j0 k false a0_0 a0_1 a0_2 a0_3 a0_4 a0_5 a0_6 a0_7 a0_8 a0_9 a0_10) = some r:=by rw [if_neg (show ¬ (false = true) by decide)] at H;exact H
   clear H
   have H:=H1
   clear H1
   have H':=a_g.mk H
   clear H
   have i_1 : w3.cell? ⟨b_u,0,none⟩ = some (.int .i64 a0_0):=(a_b a_U.out 0).trans rfl
   have i_2 : w3.cell? ⟨b_u,1,none⟩ = some (.int .i64 a0_1):=(a_b a_U.out 1).trans rfl
   have m_y : w3.cell? ⟨b_u,2,none⟩ = some (.int .i64 a0_2):=(a_b a_U.out 2).trans rfl
   have m_z : w3.cell? ⟨b_u,3,none⟩ = some (.int .i64 a0_3):=(a_b a_U.out 3).trans rfl
   have m_A : w3.cell? ⟨b_u,4,none⟩ = some (.int .i64 a0_4):=(a_b a_U.out 4).trans rfl
   have m_B : w3.cell? ⟨b_u,5,none⟩ = some (.bool a0_5):=(a_b a_U.out 5).trans rfl
   have m_C : w3.cell? ⟨b_u,6,none⟩ = some (.bool a0_6):=(a_b a_U.out 6).trans rfl
   have m_D : w3.cell? ⟨b_u,7,none⟩ = some (.int .u32 a0_7):=(a_b a_U.out 7).trans rfl
   have m_E : w3.cell? ⟨b_u,8,none⟩ = some (.int .i64 a0_8):=(a_b a_U.out 8).trans rfl
   have m_F : w3.cell? ⟨b_u,9,none⟩ = some (.int .i64 a0_9):=(a_b a_U.out 9).trans rfl
   have k_e : w3.cell? ⟨b_u,10,none⟩ = some (.int .i64 a0_10):=(a_b a_U.out 10).trans rfl
   have i_7:=a_c a_U.out 0
   have i_8:=a_c a_U.out 1
   have m_5:=a_c a_U.out 2
   have m_6:=a_c a_U.out 3
   have m_7:=a_c a_U.out 4
   have m_8:=a_c a_U.out 5
   have m_9:=a_c a_U.out 6
   have n_a:=a_c a_U.out 7
   have n_b:=a_c a_U.out 8
   have n_c:=a_c a_U.out 9
   have k_I:=a_c a_U.out 10
   go_wp2_with (first|((with_reducible refine a_J (f:=45) rfl ?_);refine b_t (some 6) rfl rfl Tryd.func45 (by kernel_rfl) rfl #[.int .i64 a0_0,.int .i64 1,.int .i64 16] rfl (by (try simp only [List.map_toArray,List.map_cons,List.map_nil]);first|done|rfl|(simp only [List.length_drop,List.length_take];rfl)) ?_;(with_reducible refine (a_F.calls a0_0 1 16 true _ A4.out).mono ?_);rintro e w' ⟨rfl,⟨nd,rfl⟩⟩;refine ⟨_,rfl,?_⟩)|(go_at_call 45;(with_reducible refine (a_F.calls a0_1 1 8 false _ A6.out).mono ?_);rintro e w' ⟨rfl,⟨nd,rfl⟩⟩))
   go_meet
   case rel => exact ⟨_,(false),(by first|rfl|(simp;done)|(simp [*];done)),H',⟨by first|omega|exact Nat.le_refl _⟩,⟨by (with_reducible repeat (first|refine a_e ?_ _|refine a_h ?_|refine a_d ?_ _));exact a_U.out⟩,⟨by repeat (first|(with_reducible first|exact HB.out|apply a_j|apply a_f|apply a_k|refine a_i ?_ j_v.out)|exact HB.out)⟩⟩
  subst c7
  have H1 : ((a_F.f a0_2 0 8).bind fun t104 => (if t104 = true then ((a_F.f a0_3 0 3).bind fun t105 => (a_R.j0 k t105 a0_0 a0_1 a0_2 a0_3 a0_4 a0_5 a0_6 a0_7 a0_8 a0_9 a0_10)) else (a_R.j0 k false a0_0 a0_1 a0_2 a0_3 a0_4 a0_5 a0_6 a0_7 a0_8 a0_9 a0_10))) = some r:=by rw [if_pos rfl] at H;exact H
  clear H
  have H:=H1
  clear H1
  replace H:=Option.bind_eq_some_iff.mp H
  obtain ⟨t104,A80,H⟩:=H
  replace H : (if t104 = true then ((a_F.f a0_3 0 3).bind fun t105 => (a_R.j0 k t105 a0_0 a0_1 a0_2 a0_3 a0_4 a0_5 a0_6 a0_7 a0_8 a0_9 a0_10)) else (a_R.j0 k false a0_0 a0_1 a0_2 a0_3 a0_4 a0_5 a0_6 a0_7 a0_8 a0_9 a0_10)) = some r:=H
  have A8:=a_g.mk A80
  clear A80
  by_cases c9 : t104 = true
  rotate_left
  ·replace c9:=Bool.eq_false_iff.mpr c9
   subst c9
   have H1 : (a_R.j0 k false a0_0 a0_1 a0_2 a0_3 a0_4 a0_5 a0_6 a0_7 a0_8 a0_9 a0_10) = some r:=by rw [if_neg (show ¬ (false = true) by decide)] at H;exact H
   clear H
   have H:=H1
   clear H1
   have H':=a_g.mk H
   clear H
   have k_a : w3.cell? ⟨b_u,0,none⟩ = some (.int .i64 a0_0):=(a_b a_U.out 0).trans rfl
   have k_b : w3.cell? ⟨b_u,1,none⟩ = some (.int .i64 a0_1):=(a_b a_U.out 1).trans rfl
   have m_q : w3.cell? ⟨b_u,2,none⟩ = some (.int .i64 a0_2):=(a_b a_U.out 2).trans rfl
   have m_r : w3.cell? ⟨b_u,3,none⟩ = some (.int .i64 a0_3):=(a_b a_U.out 3).trans rfl
   have m_s : w3.cell? ⟨b_u,4,none⟩ = some (.int .i64 a0_4):=(a_b a_U.out 4).trans rfl
   have m_t : w3.cell? ⟨b_u,5,none⟩ = some (.bool a0_5):=(a_b a_U.out 5).trans rfl
   have m_u : w3.cell? ⟨b_u,6,none⟩ = some (.bool a0_6):=(a_b a_U.out 6).trans rfl
   have m_v : w3.cell? ⟨b_u,7,none⟩ = some (.int .u32 a0_7):=(a_b a_U.out 7).trans rfl
   have m_w : w3.cell? ⟨b_u,8,none⟩ = some (.int .i64 a0_8):=(a_b a_U.out 8).trans rfl
   have m_x : w3.cell? ⟨b_u,9,none⟩ = some (.int .i64 a0_9):=(a_b a_U.out 9).trans rfl
   have k_d : w3.cell? ⟨b_u,10,none⟩ = some (.int .i64 a0_10):=(a_b a_U.out 10).trans rfl
   have k_F:=a_c a_U.out 0
   have k_G:=a_c a_U.out 1
   have m_X:=a_c a_U.out 2
   have m_Y:=a_c a_U.out 3
   have m_Z:=a_c a_U.out 4
   have m_0:=a_c a_U.out 5
   have m_1:=a_c a_U.out 6
   have m_2:=a_c a_U.out 7
   have m_3:=a_c a_U.out 8
   have m_4:=a_c a_U.out 9
   have k_H:=a_c a_U.out 10
   go_wp2_with (first|((with_reducible refine a_J (f:=45) rfl ?_);refine b_t (some 6) rfl rfl Tryd.func45 (by kernel_rfl) rfl #[.int .i64 a0_0,.int .i64 1,.int .i64 16] rfl (by (try simp only [List.map_toArray,List.map_cons,List.map_nil]);first|done|rfl|(simp only [List.length_drop,List.length_take];rfl)) ?_;(with_reducible refine (a_F.calls a0_0 1 16 true _ A4.out).mono ?_);rintro e w' ⟨rfl,⟨nd,rfl⟩⟩;refine ⟨_,rfl,?_⟩)|(go_at_call 45;(with_reducible refine (a_F.calls a0_1 1 8 true _ A6.out).mono ?_);rintro e w' ⟨rfl,⟨nd,rfl⟩⟩)|(go_at_call 45;(with_reducible refine (a_F.calls a0_2 0 8 false _ A8.out).mono ?_);rintro e w' ⟨rfl,⟨nd,rfl⟩⟩))
   go_meet
   case rel => exact ⟨_,(false),(by first|rfl|(simp;done)|(simp [*];done)),H',⟨by first|omega|exact Nat.le_refl _⟩,⟨by (with_reducible repeat (first|refine a_e ?_ _|refine a_h ?_|refine a_d ?_ _));exact a_U.out⟩,⟨by repeat (first|(with_reducible first|exact HB.out|apply a_j|apply a_f|apply a_k|refine a_i ?_ j_v.out)|exact HB.out)⟩⟩
  subst c9
  have H1 : ((a_F.f a0_3 0 3).bind fun t105 => (a_R.j0 k t105 a0_0 a0_1 a0_2 a0_3 a0_4 a0_5 a0_6 a0_7 a0_8 a0_9 a0_10)) = some r:=by rw [if_pos rfl] at H;exact H
  clear H
  have H:=H1
  clear H1
  replace H:=Option.bind_eq_some_iff.mp H
  obtain ⟨t105,A100,H⟩:=H
  replace H : (a_R.j0 k t105 a0_0 a0_1 a0_2 a0_3 a0_4 a0_5 a0_6 a0_7 a0_8 a0_9 a0_10) = some r:=H
  have A10:=a_g.mk A100
  clear A100
  have H':=a_g.mk H
  clear H
  have i_g : w3.cell? ⟨b_u,0,none⟩ = some (.int .i64 a0_0):=(a_b a_U.out 0).trans rfl
  have i_h : w3.cell? ⟨b_u,1,none⟩ = some (.int .i64 a0_1):=(a_b a_U.out 1).trans rfl
  have t_m : w3.cell? ⟨b_u,2,none⟩ = some (.int .i64 a0_2):=(a_b a_U.out 2).trans rfl
  have t_n : w3.cell? ⟨b_u,3,none⟩ = some (.int .i64 a0_3):=(a_b a_U.out 3).trans rfl
  have t_o : w3.cell? ⟨b_u,4,none⟩ = some (.int .i64 a0_4):=(a_b a_U.out 4).trans rfl
  have t_p : w3.cell? ⟨b_u,5,none⟩ = some (.bool a0_5):=(a_b a_U.out 5).trans rfl
  have t_q : w3.cell? ⟨b_u,6,none⟩ = some (.bool a0_6):=(a_b a_U.out 6).trans rfl
  have t_r : w3.cell? ⟨b_u,7,none⟩ = some (.int .u32 a0_7):=(a_b a_U.out 7).trans rfl
  have t_s : w3.cell? ⟨b_u,8,none⟩ = some (.int .i64 a0_8):=(a_b a_U.out 8).trans rfl
  have t_t : w3.cell? ⟨b_u,9,none⟩ = some (.int .i64 a0_9):=(a_b a_U.out 9).trans rfl
  have r_2 : w3.cell? ⟨b_u,10,none⟩ = some (.int .i64 a0_10):=(a_b a_U.out 10).trans rfl
  have i_k:=a_c a_U.out 0
  have g_L:=a_c a_U.out 1
  have u_9:=a_c a_U.out 2
  have v_a:=a_c a_U.out 3
  have v_b:=a_c a_U.out 4
  have v_c:=a_c a_U.out 5
  have v_d:=a_c a_U.out 6
  have v_e:=a_c a_U.out 7
  have v_f:=a_c a_U.out 8
  have v_g:=a_c a_U.out 9
  have s_b:=a_c a_U.out 10
  go_wp2_with (first|((with_reducible refine a_J (f:=45) rfl ?_);refine b_t (some 6) rfl rfl Tryd.func45 (by kernel_rfl) rfl #[.int .i64 a0_0,.int .i64 1,.int .i64 16] rfl (by (try simp only [List.map_toArray,List.map_cons,List.map_nil]);first|done|rfl|(simp only [List.length_drop,List.length_take];rfl)) ?_;(with_reducible refine (a_F.calls a0_0 1 16 true _ A4.out).mono ?_);rintro e w' ⟨rfl,⟨nd,rfl⟩⟩;refine ⟨_,rfl,?_⟩)|(go_at_call 45;(with_reducible refine (a_F.calls a0_1 1 8 true _ A6.out).mono ?_);rintro e w' ⟨rfl,⟨nd,rfl⟩⟩)|(go_at_call 45;(with_reducible refine (a_F.calls a0_2 0 8 true _ A8.out).mono ?_);rintro e w' ⟨rfl,⟨nd,rfl⟩⟩)|(go_at_call 45;(with_reducible refine (a_F.calls a0_3 0 3 t105 _ A10.out).mono ?_);rintro e w' ⟨rfl,⟨nd,rfl⟩⟩))
  go_meet
  case rel => exact ⟨_,(t105),(by first|rfl|(simp;done)|(simp [*];done)),H',⟨by first|omega|exact Nat.le_refl _⟩,⟨by (with_reducible repeat (first|refine a_e ?_ _|refine a_h ?_|refine a_d ?_ _));exact a_U.out⟩,⟨by repeat (first|(with_reducible first|exact HB.out|apply a_j|apply a_f|apply a_k|refine a_i ?_ j_v.out)|exact HB.out)⟩⟩
 case rest =>
  clear HC2
  try clear p2
  try clear c3
  try clear c4
  try clear c5
  try clear c7
  try clear c9
  try clear i_g
  try clear i_h
  try clear r_2
  try clear t_m
  try clear t_n
  try clear t_o
  try clear t_p
  try clear t_q
  try clear t_r
  try clear t_s
  try clear t_t
  try clear k_a
  try clear k_b
  try clear k_d
  try clear m_q
  try clear m_r
  try clear m_s
  try clear m_t
  try clear m_u
  try clear m_v
  try clear m_w
  try clear m_x
  try clear i_1
  try clear i_2
  try clear k_e
  try clear m_y
  try clear m_z
  try clear m_A
  try clear m_B
  try clear m_C
  try clear m_D
  try clear m_E
  try clear m_F
  try clear f_y
  try clear f_z
  try clear e_P
  try clear f_A
  try clear f_B
  try clear f_C
  try clear f_D
  try clear f_E
  try clear f_F
  try clear f_G
  try clear f_H
  try clear i_k
  try clear g_L
  try clear s_b
  try clear u_9
  try clear v_a
  try clear v_b
  try clear v_c
  try clear v_d
  try clear v_e
  try clear v_f
  try clear v_g
  try clear k_F
  try clear k_G
  try clear k_H
  try clear m_X
  try clear m_Y
  try clear m_Z
  try clear m_0
  try clear m_1
  try clear m_2
  try clear m_3
  try clear m_4
  try clear i_7
  try clear i_8
  try clear k_I
  try clear m_5
  try clear m_6
  try clear m_7
  try clear m_8
  try clear m_9
  try clear n_a
  try clear n_b
  try clear n_c
  try clear f_I
  try clear f_J
  try clear e_Q
  try clear f_K
  try clear f_L
  try clear f_M
  try clear f_N
  try clear f_O
  try clear f_P
  try clear f_Q
  try clear f_R
  obtain ⟨kq,x3_1,rfl,HA,HJ1,a_U,HB⟩:=hcut
  cases kq with
  | zero => exact absurd HA.out (by simp [a_R.j0])
  | succ kj1 =>
   have H:=HA.out
   clear HA
   simp only [a_R.j0] at H
   by_cases c15 : x3_1 = true
   rotate_left
   ·replace c15:=Bool.eq_false_iff.mpr c15
    subst c15
    have H1 : (some false) = some r:=by rw [if_neg (show ¬ (false = true) by decide)] at H;exact H
    clear H
    have H:=H1
    clear H1
    obtain rfl:=Option.some.inj H
    go_wp2
    go_ret
    exact ⟨by first|rfl|(simp [a_u,a_v] <;> rfl)|(simp [*, a_u,a_v] <;> rfl),by repeat (first|(with_reducible first|exact HB.out|apply a_j|apply a_f|apply a_k|refine a_i ?_ j_v.out)|exact HB.out)⟩
   subst c15
   have H1 : ((a_F.f a0_4 (-1) 7).bind fun t106 => (if t106 = true then ((c_w.f a0_7).bind fun t107 => (if t107 = 0 then ((a_F.f a0_8 1 65535).bind fun t108 => (if t108 = true then ((a_F.f a0_9 1 8).bind fun t109 => (if t109 = true then ((a_F.f a0_10 0 800).bind fun t110 => (some t110)) else (some false))) else (some false))) else (some false))) else (some false))) = some r:=by rw [if_pos rfl] at H;exact H
   clear H
   have H:=H1
   clear H1
   replace H:=Option.bind_eq_some_iff.mp H
   obtain ⟨t106,A160,H⟩:=H
   replace H : (if t106 = true then ((c_w.f a0_7).bind fun t107 => (if t107 = 0 then ((a_F.f a0_8 1 65535).bind fun t108 => (if t108 = true then ((a_F.f a0_9 1 8).bind fun t109 => (if t109 = true then ((a_F.f a0_10 0 800).bind fun t110 => (some t110)) else (some false))) else (some false))) else (some false))) else (some false)) = some r:=H
   have A16:=a_g.mk A160
   clear A160
   by_cases c17 : t106 = true
   rotate_left
   ·replace c17:=Bool.eq_false_iff.mpr c17
    subst c17
    have H1 : (some false) = some r:=by rw [if_neg (show ¬ (false = true) by decide)] at H;exact H
    clear H
    have H:=H1
    clear H1
    obtain rfl:=Option.some.inj H
    have p_V : wc.cell? ⟨b_u,0,none⟩ = some (.int .i64 a0_0):=(a_b a_U.out 0).trans rfl
    have p_W : wc.cell? ⟨b_u,1,none⟩ = some (.int .i64 a0_1):=(a_b a_U.out 1).trans rfl
    have A_t : wc.cell? ⟨b_u,2,none⟩ = some (.int .i64 a0_2):=(a_b a_U.out 2).trans rfl
    have A_u : wc.cell? ⟨b_u,3,none⟩ = some (.int .i64 a0_3):=(a_b a_U.out 3).trans rfl
    have A_v : wc.cell? ⟨b_u,4,none⟩ = some (.int .i64 a0_4):=(a_b a_U.out 4).trans rfl
    have A_w : wc.cell? ⟨b_u,5,none⟩ = some (.bool a0_5):=(a_b a_U.out 5).trans rfl
    have A_x : wc.cell? ⟨b_u,6,none⟩ = some (.bool a0_6):=(a_b a_U.out 6).trans rfl
    have A_y : wc.cell? ⟨b_u,7,none⟩ = some (.int .u32 a0_7):=(a_b a_U.out 7).trans rfl
    have A_z : wc.cell? ⟨b_u,8,none⟩ = some (.int .i64 a0_8):=(a_b a_U.out 8).trans rfl
    have A_A : wc.cell? ⟨b_u,9,none⟩ = some (.int .i64 a0_9):=(a_b a_U.out 9).trans rfl
    have y_L : wc.cell? ⟨b_u,10,none⟩ = some (.int .i64 a0_10):=(a_b a_U.out 10).trans rfl
    have q_M:=a_c a_U.out 0
    have q_N:=a_c a_U.out 1
    have E_b:=a_c a_U.out 2
    have E_c:=a_c a_U.out 3
    have E_d:=a_c a_U.out 4
    have E_e:=a_c a_U.out 5
    have E_f:=a_c a_U.out 6
    have E_g:=a_c a_U.out 7
    have E_h:=a_c a_U.out 8
    have E_i:=a_c a_U.out 9
    have z_c:=a_c a_U.out 10
    go_wp2_with (first|(go_at_call 45;(with_reducible refine (a_F.calls a0_4 (-1) 7 false _ A16.out).mono ?_);rintro e w' ⟨rfl,⟨nd,rfl⟩⟩))
    go_ret
    exact ⟨by first|rfl|(simp [a_u,a_v] <;> rfl)|(simp [*, a_u,a_v] <;> rfl),by repeat (first|(with_reducible first|exact HB.out|apply a_j|apply a_f|apply a_k|refine a_i ?_ j_v.out)|exact HB.out)⟩
   subst c17
   have H1 : ((c_w.f a0_7).bind fun t107 => (if t107 = 0 then ((a_F.f a0_8 1 65535).bind fun t108 => (if t108 = true then ((a_F.f a0_9 1 8).bind fun t109 => (if t109 = true then ((a_F.f a0_10 0 800).bind fun t110 => (some t110)) else (some false))) else (some false))) else (some false))) = some r:=by rw [if_pos rfl] at H;exact H
   clear H
   have H:=H1
   clear H1
   replace H:=Option.bind_eq_some_iff.mp H
   obtain ⟨t107,A180,H⟩:=H
   replace H : (if t107 = 0 then ((a_F.f a0_8 1 65535).bind fun t108 => (if t108 = true then ((a_F.f a0_9 1 8).bind fun t109 => (if t109 = true then ((a_F.f a0_10 0 800).bind fun t110 => (some t110)) else (some false))) else (some false))) else (some false)) = some r:=H
   have A18:=a_g.mk A180
   clear A180
   by_cases c19 : t107 = 0
   rotate_left
   ·rw [if_neg c19] at H
    have c19b0 : (t107 == 0) = false:=beq_eq_false_iff_ne.mpr c19
    have c19b1 : (t107 != 0) = true:=bne_iff_ne.mpr c19
    obtain rfl:=Option.some.inj H
    have h_e : wc.cell? ⟨b_u,0,none⟩ = some (.int .i64 a0_0):=(a_b a_U.out 0).trans rfl
    have h_f : wc.cell? ⟨b_u,1,none⟩ = some (.int .i64 a0_1):=(a_b a_U.out 1).trans rfl
    have p_N : wc.cell? ⟨b_u,2,none⟩ = some (.int .i64 a0_2):=(a_b a_U.out 2).trans rfl
    have p_O : wc.cell? ⟨b_u,3,none⟩ = some (.int .i64 a0_3):=(a_b a_U.out 3).trans rfl
    have p_P : wc.cell? ⟨b_u,4,none⟩ = some (.int .i64 a0_4):=(a_b a_U.out 4).trans rfl
    have p_Q : wc.cell? ⟨b_u,5,none⟩ = some (.bool a0_5):=(a_b a_U.out 5).trans rfl
    have p_R : wc.cell? ⟨b_u,6,none⟩ = some (.bool a0_6):=(a_b a_U.out 6).trans rfl
    have p_S : wc.cell? ⟨b_u,7,none⟩ = some (.int .u32 a0_7):=(a_b a_U.out 7).trans rfl
    have p_T : wc.cell? ⟨b_u,8,none⟩ = some (.int .i64 a0_8):=(a_b a_U.out 8).trans rfl
    have p_U : wc.cell? ⟨b_u,9,none⟩ = some (.int .i64 a0_9):=(a_b a_U.out 9).trans rfl
    have n_9 : wc.cell? ⟨b_u,10,none⟩ = some (.int .i64 a0_10):=(a_b a_U.out 10).trans rfl
    have h_l:=a_c a_U.out 0
    have h_m:=a_c a_U.out 1
    have q_E:=a_c a_U.out 2
    have q_F:=a_c a_U.out 3
    have q_G:=a_c a_U.out 4
    have q_H:=a_c a_U.out 5
    have q_I:=a_c a_U.out 6
    have q_J:=a_c a_U.out 7
    have q_K:=a_c a_U.out 8
    have q_L:=a_c a_U.out 9
    have o_o:=a_c a_U.out 10
    go_wp2_with (first|(go_at_call 45;(with_reducible refine (a_F.calls a0_4 (-1) 7 true _ A16.out).mono ?_);rintro e w' ⟨rfl,⟨nd,rfl⟩⟩)|(go_at_call 46;(with_reducible refine (c_w.calls a0_7 t107 _ A18.out).mono ?_);rintro e w' ⟨rfl,⟨nd,rfl⟩⟩))
    go_ret
    exact ⟨by first|rfl|(simp [a_u,a_v] <;> rfl)|(simp [*, a_u,a_v] <;> rfl),by repeat (first|(with_reducible first|exact HB.out|apply a_j|apply a_f|apply a_k|refine a_i ?_ j_v.out)|exact HB.out)⟩
   rw [if_pos c19] at H
   have c19b0 : (t107 == 0) = true:=beq_iff_eq.mpr c19
   have c19b1 : (t107 != 0) = false:=bne_eq_false_iff_eq.mpr c19
   clear c19
   replace H:=Option.bind_eq_some_iff.mp H
   obtain ⟨t108,A200,H⟩:=H
   replace H : (if t108 = true then ((a_F.f a0_9 1 8).bind fun t109 => (if t109 = true then ((a_F.f a0_10 0 800).bind fun t110 => (some t110)) else (some false))) else (some false)) = some r:=H
   have A20:=a_g.mk A200
   clear A200
   by_cases c21 : t108 = true
   rotate_left
   ·replace c21:=Bool.eq_false_iff.mpr c21
    subst c21
    have H1 : (some false) = some r:=by rw [if_neg (show ¬ (false = true) by decide)] at H;exact H
    clear H
    have H:=H1
    clear H1
    obtain rfl:=Option.some.inj H
    have m_S : wc.cell? ⟨b_u,0,none⟩ = some (.int .i64 a0_0):=(a_b a_U.out 0).trans rfl
    have p_M : wc.cell? ⟨b_u,1,none⟩ = some (.int .i64 a0_1):=(a_b a_U.out 1).trans rfl
    have A_l : wc.cell? ⟨b_u,2,none⟩ = some (.int .i64 a0_2):=(a_b a_U.out 2).trans rfl
    have A_m : wc.cell? ⟨b_u,3,none⟩ = some (.int .i64 a0_3):=(a_b a_U.out 3).trans rfl
    have A_n : wc.cell? ⟨b_u,4,none⟩ = some (.int .i64 a0_4):=(a_b a_U.out 4).trans rfl
    have A_o : wc.cell? ⟨b_u,5,none⟩ = some (.bool a0_5):=(a_b a_U.out 5).trans rfl
    have A_p : wc.cell? ⟨b_u,6,none⟩ = some (.bool a0_6):=(a_b a_U.out 6).trans rfl
    have A_q : wc.cell? ⟨b_u,7,none⟩ = some (.int .u32 a0_7):=(a_b a_U.out 7).trans rfl
    have A_r : wc.cell? ⟨b_u,8,none⟩ = some (.int .i64 a0_8):=(a_b a_U.out 8).trans rfl
    have A_s : wc.cell? ⟨b_u,9,none⟩ = some (.int .i64 a0_9):=(a_b a_U.out 9).trans rfl
    have y_K : wc.cell? ⟨b_u,10,none⟩ = some (.int .i64 a0_10):=(a_b a_U.out 10).trans rfl
    have n_p:=a_c a_U.out 0
    have q_D:=a_c a_U.out 1
    have D_3:=a_c a_U.out 2
    have D_4:=a_c a_U.out 3
    have D_5:=a_c a_U.out 4
    have D_6:=a_c a_U.out 5
    have D_7:=a_c a_U.out 6
    have D_8:=a_c a_U.out 7
    have D_9:=a_c a_U.out 8
    have E_a:=a_c a_U.out 9
    have z_b:=a_c a_U.out 10
    go_wp2_with (first|(go_at_call 45;(with_reducible refine (a_F.calls a0_4 (-1) 7 true _ A16.out).mono ?_);rintro e w' ⟨rfl,⟨nd,rfl⟩⟩)|(go_at_call 46;(with_reducible refine (c_w.calls a0_7 t107 _ A18.out).mono ?_);rintro e w' ⟨rfl,⟨nd,rfl⟩⟩)|(go_at_call 45;(with_reducible refine (a_F.calls a0_8 1 65535 false _ A20.out).mono ?_);rintro e w' ⟨rfl,⟨nd,rfl⟩⟩))
    go_ret
    exact ⟨by first|rfl|(simp [a_u,a_v] <;> rfl)|(simp [*, a_u,a_v] <;> rfl),by repeat (first|(with_reducible first|exact HB.out|apply a_j|apply a_f|apply a_k|refine a_i ?_ j_v.out)|exact HB.out)⟩
   subst c21
   have H1 : ((a_F.f a0_9 1 8).bind fun t109 => (if t109 = true then ((a_F.f a0_10 0 800).bind fun t110 => (some t110)) else (some false))) = some r:=by rw [if_pos rfl] at H;exact H
   clear H
   have H:=H1
   clear H1
   replace H:=Option.bind_eq_some_iff.mp H
   obtain ⟨t109,A220,H⟩:=H
   replace H : (if t109 = true then ((a_F.f a0_10 0 800).bind fun t110 => (some t110)) else (some false)) = some r:=H
   have A22:=a_g.mk A220
   clear A220
   by_cases c23 : t109 = true
   rotate_left
   ·replace c23:=Bool.eq_false_iff.mpr c23
    subst c23
    have H1 : (some false) = some r:=by rw [if_neg (show ¬ (false = true) by decide)] at H;exact H
    clear H
    have H:=H1
    clear H1
    obtain rfl:=Option.some.inj H
    have k_s : wc.cell? ⟨b_u,0,none⟩ = some (.int .i64 a0_0):=(a_b a_U.out 0).trans rfl
    have k_t : wc.cell? ⟨b_u,1,none⟩ = some (.int .i64 a0_1):=(a_b a_U.out 1).trans rfl
    have A_d : wc.cell? ⟨b_u,2,none⟩ = some (.int .i64 a0_2):=(a_b a_U.out 2).trans rfl
    have A_e : wc.cell? ⟨b_u,3,none⟩ = some (.int .i64 a0_3):=(a_b a_U.out 3).trans rfl
    have A_f : wc.cell? ⟨b_u,4,none⟩ = some (.int .i64 a0_4):=(a_b a_U.out 4).trans rfl
    have A_g : wc.cell? ⟨b_u,5,none⟩ = some (.bool a0_5):=(a_b a_U.out 5).trans rfl
    have A_h : wc.cell? ⟨b_u,6,none⟩ = some (.bool a0_6):=(a_b a_U.out 6).trans rfl
    have A_i : wc.cell? ⟨b_u,7,none⟩ = some (.int .u32 a0_7):=(a_b a_U.out 7).trans rfl
    have A_j : wc.cell? ⟨b_u,8,none⟩ = some (.int .i64 a0_8):=(a_b a_U.out 8).trans rfl
    have A_k : wc.cell? ⟨b_u,9,none⟩ = some (.int .i64 a0_9):=(a_b a_U.out 9).trans rfl
    have y_J : wc.cell? ⟨b_u,10,none⟩ = some (.int .i64 a0_10):=(a_b a_U.out 10).trans rfl
    have k_W:=a_c a_U.out 0
    have k_X:=a_c a_U.out 1
    have D_V:=a_c a_U.out 2
    have D_W:=a_c a_U.out 3
    have D_X:=a_c a_U.out 4
    have D_Y:=a_c a_U.out 5
    have D_Z:=a_c a_U.out 6
    have D_0:=a_c a_U.out 7
    have D_1:=a_c a_U.out 8
    have D_2:=a_c a_U.out 9
    have z_a:=a_c a_U.out 10
    go_wp2_with (first|(go_at_call 45;(with_reducible refine (a_F.calls a0_4 (-1) 7 true _ A16.out).mono ?_);rintro e w' ⟨rfl,⟨nd,rfl⟩⟩)|(go_at_call 46;(with_reducible refine (c_w.calls a0_7 t107 _ A18.out).mono ?_);rintro e w' ⟨rfl,⟨nd,rfl⟩⟩)|(go_at_call 45;(with_reducible refine (a_F.calls a0_8 1 65535 true _ A20.out).mono ?_);rintro e w' ⟨rfl,⟨nd,rfl⟩⟩)|(go_at_call 45;(with_reducible refine (a_F.calls a0_9 1 8 false _ A22.out).mono ?_);rintro e w' ⟨rfl,⟨nd,rfl⟩⟩))
    go_ret
    exact ⟨by first|rfl|(simp [a_u,a_v] <;> rfl)|(simp [*, a_u,a_v] <;> rfl),by repeat (first|(with_reducible first|exact HB.out|apply a_j|apply a_f|apply a_k|refine a_i ?_ j_v.out)|exact HB.out)⟩
   subst c23
   have H1 : ((a_F.f a0_10 0 800).bind fun t110 => (some t110)) = some r:=by rw [if_pos rfl] at H;exact H
   clear H
   have H:=H1
   clear H1
   replace H:=Option.bind_eq_some_iff.mp H
   obtain ⟨t110,A240,H⟩:=H
   replace H : (some t110) = some r:=H
   have A24:=a_g.mk A240
   clear A240
   obtain rfl:=Option.some.inj H
   have f_7 : wc.cell? ⟨b_u,0,none⟩ = some (.int .i64 a0_0):=(a_b a_U.out 0).trans rfl
   have f_8 : wc.cell? ⟨b_u,1,none⟩ = some (.int .i64 a0_1):=(a_b a_U.out 1).trans rfl
   have g_C : wc.cell? ⟨b_u,2,none⟩ = some (.int .i64 a0_2):=(a_b a_U.out 2).trans rfl
   have g_D : wc.cell? ⟨b_u,3,none⟩ = some (.int .i64 a0_3):=(a_b a_U.out 3).trans rfl
   have g_E : wc.cell? ⟨b_u,4,none⟩ = some (.int .i64 a0_4):=(a_b a_U.out 4).trans rfl
   have g_F : wc.cell? ⟨b_u,5,none⟩ = some (.bool a0_5):=(a_b a_U.out 5).trans rfl
   have g_G : wc.cell? ⟨b_u,6,none⟩ = some (.bool a0_6):=(a_b a_U.out 6).trans rfl
   have g_H : wc.cell? ⟨b_u,7,none⟩ = some (.int .u32 a0_7):=(a_b a_U.out 7).trans rfl
   have g_I : wc.cell? ⟨b_u,8,none⟩ = some (.int .i64 a0_8):=(a_b a_U.out 8).trans rfl
   have g_J : wc.cell? ⟨b_u,9,none⟩ = some (.int .i64 a0_9):=(a_b a_U.out 9).trans rfl
   have f_v : wc.cell? ⟨b_u,10,none⟩ = some (.int .i64 a0_10):=(a_b a_U.out 10).trans rfl
   have f_9:=a_c a_U.out 0
   have g_a:=a_c a_U.out 1
   have g_N:=a_c a_U.out 2
   have g_O:=a_c a_U.out 3
   have g_P:=a_c a_U.out 4
   have g_Q:=a_c a_U.out 5
   have g_R:=a_c a_U.out 6
   have g_S:=a_c a_U.out 7
   have g_T:=a_c a_U.out 8
   have g_U:=a_c a_U.out 9
   have f_w:=a_c a_U.out 10
   go_wp2_with (first|(go_at_call 45;(with_reducible refine (a_F.calls a0_4 (-1) 7 true _ A16.out).mono ?_);rintro e w' ⟨rfl,⟨nd,rfl⟩⟩)|(go_at_call 46;(with_reducible refine (c_w.calls a0_7 t107 _ A18.out).mono ?_);rintro e w' ⟨rfl,⟨nd,rfl⟩⟩)|(go_at_call 45;(with_reducible refine (a_F.calls a0_8 1 65535 true _ A20.out).mono ?_);rintro e w' ⟨rfl,⟨nd,rfl⟩⟩)|(go_at_call 45;(with_reducible refine (a_F.calls a0_9 1 8 true _ A22.out).mono ?_);rintro e w' ⟨rfl,⟨nd,rfl⟩⟩)|(go_at_call 45;(with_reducible refine (a_F.calls a0_10 0 800 t110 _ A24.out).mono ?_);rintro e w' ⟨rfl,⟨nd,rfl⟩⟩))
   go_ret
   exact ⟨by first|rfl|(simp [a_u,a_v] <;> rfl)|(simp [*, a_u,a_v] <;> rfl),by repeat (first|(with_reducible first|exact HB.out|apply a_j|apply a_f|apply a_k|refine a_i ?_ j_v.out)|exact HB.out)⟩
end Go.Proofs.YtgglkfilkagblaaDoor.Q
end
