/- Part 13 of 13 of what the row of AuditMoments stands on: contracts over the given program's functions, the plain law, the row; no condition beyond those that each theorem states. -/
import Derived.Test.YtgglkfilkagblaaDoorXAuditMoments11
import Derived.Test.YtgglkfilkagblaaDoorTie
import Derived.Test.YtgglkfilkagblaaDoorCards
import Derived.SevenTiedAt
import Derived.LaidMore
import Derived.Lib.LaidTab
section
namespace Go.Proofs.YtgglkfilkagblaaDoor.Q
open Go.RowKit Go.Proofs.YtgglkfilkagblaaDoorW.PrintWords Go.Proofs.YtgglkfilkagblaaDoorW.PrintLast Go.Proofs.YtgglkfilkagblaaDoorW.PrintMore
set_option linter.unusedVariables false
set_option linter.unusedSimpArgs false
def a_E.f (k : Nat) (a0_0 : Int) (l0_1 : List (S33)) : Option (Bool):=(a_Q.f k).bind fun t239 => (if t239 = true then (if (l0_1.length : Int) > 30 then (some true) else ((a_I.f k a0_0 l0_1).bind fun t240 => ((a_V.f k a0_0 l0_1).bind fun t241 => ((a_T.f k a0_0 l0_1).bind fun t242 => ((a_l.f k a0_0 l0_1).bind fun t245 => (if t245 = true then ((a_q.f k a0_0 l0_1).bind fun t246 => (if (t240 == t246) = true then ((a_s.f k a0_0 l0_1).bind fun t247 => (if (t241 == t247) = true then ((a_t.f k a0_0 l0_1).bind fun t248 => ((a_z.f k t242 t248).bind fun t251 => (some t251))) else (some false))) else (some false))) else (if t240 = true then (some false) else (if t241 = true then (some false) else (some ((t242.length : Int) == 0)))))))))) else (some false))
theorem a_E.mono : ∀ a0 a1 k,LeO (a_E.f k a0 a1) (a_E.f (k + 1) a0 a1):=by
 intro a0 a1 k
 unfold a_E.f
 repeat' first
  | (with_reducible exact a_I.mono _ _ _)
  | (with_reducible exact a_T.mono _ _ _)
  | (with_reducible exact a_V.mono _ _ _)
  | (with_reducible exact a_Q.mono _)
  | (with_reducible exact a_z.mono _ _ _)
  | (with_reducible exact a_q.mono _ _ _)
  | (with_reducible exact a_t.mono _ _ _)
  | (with_reducible exact a_l.mono _ _ _)
  | (with_reducible exact a_s.mono _ _ _)
  | (with_reducible exact LeO.refl _)
  | (with_reducible exact LeO.none _)
  | (with_reducible refine LeO.ite ?_ ?_)
  | (with_reducible refine LeO.bind ?_ (fun _ => ?_))
  | exact a_I.mono _ _ _
  | exact a_T.mono _ _ _
  | exact a_V.mono _ _ _
  | exact a_Q.mono _
  | exact a_z.mono _ _ _
  | exact a_q.mono _ _ _
  | exact a_t.mono _ _ _
  | exact a_l.mono _ _ _
  | exact a_s.mono _ _ _
  | exact LeO.none _
  | refine LeO.ite ?_ ?_
  | refine LeO.bind ?_ (fun _ => ?_)
def a_E.T5 : Bool × List (List Nat × List Nat):=(true,[([],[]),([0],[0]),([],[]),([2,1],[2]),([],[]),([4,3],[4]),([1,5,0,1],[1]),([3,6,0,1,2,3,6],[3]),([5,7,0,1,2,3,4,5,6,7],[5])])
def a_E.B5 : List Nat:=[0,1,0,7,0,31,63,127,255]
theorem a_E.tab5 : rtab .any (opsOf Tryd.f3 5) = a_E.T5:=by kernel_rfl
theorem a_E.o_V : f_S a_E.T5.2 a_E.B5 = true:=by kernel_rfl
set_option maxHeartbeats 8000000 in
set_option maxRecDepth 100000 in
theorem a_E.calls (k : Nat) (a0_0 : Int) (A0_1 : Option Addr) (c0_1 : Nat) (l0_1 : List (S33)) (r : Bool) (w : World) (hr0_1 : Kd.C k33 w A0_1 l0_1.length l0_1) (hc0_1 : l0_1.length ≤ c0_1) (ht : e_u w) (h : a_E.f k a0_0 l0_1 = some r) :
 Calls Tryd.prog 3 #[.agg #[.int .i64 a0_0,.slice A0_1 l0_1.length c0_1]] w fun e w' => e = .returned (.bool r) ∧ Below w.heap.size w w':=by
 have hu24:=Tryd.underlying24
 have HTAB_:=a_g.mk ht
 clear ht
 have b_v:=a_g.mk hr0_1
 have c_b:=a_g.mk hc0_1
 clear hr0_1 hc0_1
 have HB:=a_g.mk (Below.refl w.heap.size w)
 have H : ((a_Q.f k).bind fun t239 => (if t239 = true then (if (l0_1.length : Int) > 30 then (some true) else ((a_I.f k a0_0 l0_1).bind fun t240 => ((a_V.f k a0_0 l0_1).bind fun t241 => ((a_T.f k a0_0 l0_1).bind fun t242 => ((a_l.f k a0_0 l0_1).bind fun t245 => (if t245 = true then ((a_q.f k a0_0 l0_1).bind fun t246 => (if (t240 == t246) = true then ((a_s.f k a0_0 l0_1).bind fun t247 => (if (t241 == t247) = true then ((a_t.f k a0_0 l0_1).bind fun t248 => ((a_z.f k t242 t248).bind fun t251 => (some t251))) else (some false))) else (some false))) else (if t240 = true then (some false) else (if t241 = true then (some false) else (some ((t242.length : Int) == 0)))))))))) else (some false))) = some r:=h
 clear h
 replace H:=Option.bind_eq_some_iff.mp H
 obtain ⟨t239,A20,H⟩:=H
 replace H : (if t239 = true then (if (l0_1.length : Int) > 30 then (some true) else ((a_I.f k a0_0 l0_1).bind fun t240 => ((a_V.f k a0_0 l0_1).bind fun t241 => ((a_T.f k a0_0 l0_1).bind fun t242 => ((a_l.f k a0_0 l0_1).bind fun t245 => (if t245 = true then ((a_q.f k a0_0 l0_1).bind fun t246 => (if (t240 == t246) = true then ((a_s.f k a0_0 l0_1).bind fun t247 => (if (t241 == t247) = true then ((a_t.f k a0_0 l0_1).bind fun t248 => ((a_z.f k t242 t248).bind fun t251 => (some t251))) else (some false))) else (some false))) else (if t240 = true then (some false) else (if t241 = true then (some false) else (some ((t242.length : Int) == 0)))))))))) else (some false)) = some r:=H
 have A2:=a_g.mk A20
 clear A20
 by_cases c3 : t239 = true
 rotate_left
 ·replace c3:=Bool.eq_false_iff.mpr c3
  subst c3
  have H1 : (some false) = some r:=by rw [if_neg (show ¬ (false = true) by decide)] at H;exact H
  clear H
  have H:=H1
  clear H1
  obtain rfl:=Option.some.inj H
  go_enter Tryd.func3,Tryd.ntmps3
  go_wp2_with (first|((with_reducible refine a_G (N:=1) rfl ?_);(try (refine d_T (by rfl) ?_;dsimp only));refine a_C ?hg (N:=1) ?hd (cs:=#[.int .i64 a0_0,.slice A0_1 l0_1.length c0_1]) (t:=24) ?hr ?_;(case hd => rfl);(case hg => rfl);(case hr => first|(go_simp;done)|(go_simp;rfl));intro b_1 hg w90 hbox hb;have a_P:=a_g.mk (hbox);have m_e:=a_g.mk ((by rw [hg];exact (a_n (lup_ HB.out)) : w.heap.size ≤ b_1));have b_6:=a_g.mk ((by rw [hg];exact (a_n (lup_ HB.out)) : w.heap.size ≤ b_1));replace HB:=a_g.mk (a_p (lup_ HB.out) hb);clear hb hbox hg)|((with_reducible refine a_J (f:=5) rfl ?_);refine b_t (some 6) rfl rfl Tryd.func5 (by kernel_rfl) rfl #[] rfl (by (try simp only [List.map_toArray,List.map_cons,List.map_nil]);first|done|rfl|(simp only [List.length_drop,List.length_take];rfl)) ?_;(with_reducible refine (a_Q.calls k  false _ A2.out).mono ?_);rintro e w91 ⟨rfl,hb⟩;refine ⟨_,rfl,?_⟩;replace a_P:=a_g.mk (a_m (bup_ a_P.out) hb);replace HB:=a_g.mk (a_p (by repeat (first|(with_reducible first|exact HB.out|apply a_j|apply a_f|apply a_k|refine a_i ?_ b_6.out)|exact HB.out)) hb);(try clear hb);(try clear hb2);(try clear hk);(try clear hi)))
  go_ret
  exact ⟨by first|rfl|(simp [a_u,a_v] <;> rfl)|(simp [*, a_u,a_v] <;> rfl),by repeat (first|(with_reducible first|exact HB.out|apply a_j|apply a_f|apply a_k|refine a_i ?_ b_6.out)|exact HB.out)⟩
 subst c3
 have H1 : (if (l0_1.length : Int) > 30 then (some true) else ((a_I.f k a0_0 l0_1).bind fun t240 => ((a_V.f k a0_0 l0_1).bind fun t241 => ((a_T.f k a0_0 l0_1).bind fun t242 => ((a_l.f k a0_0 l0_1).bind fun t245 => (if t245 = true then ((a_q.f k a0_0 l0_1).bind fun t246 => (if (t240 == t246) = true then ((a_s.f k a0_0 l0_1).bind fun t247 => (if (t241 == t247) = true then ((a_t.f k a0_0 l0_1).bind fun t248 => ((a_z.f k t242 t248).bind fun t251 => (some t251))) else (some false))) else (some false))) else (if t240 = true then (some false) else (if t241 = true then (some false) else (some ((t242.length : Int) == 0)))))))))) = some r:=by rw [if_pos rfl] at H;exact H
 clear H
 have H:=H1
 clear H1
 by_cases c4 : (l0_1.length : Int) > 30
 ·rw [if_pos c4] at H
  have c4b0 : decide (30 < (l0_1.length : Int)) = true:=decide_eq_true c4
  have c4b1 : decide (30 < l0_1.length) = true:=decide_eq_true (by omega)
  clear c4
  obtain rfl:=Option.some.inj H
  go_enter Tryd.func3,Tryd.ntmps3
  go_wp2_with (first|((with_reducible refine a_G (N:=1) rfl ?_);(try (refine d_T (by rfl) ?_;dsimp only));refine a_C ?hg (N:=1) ?hd (cs:=#[.int .i64 a0_0,.slice A0_1 l0_1.length c0_1]) (t:=24) ?hr ?_;(case hd => rfl);(case hg => rfl);(case hr => first|(go_simp;done)|(go_simp;rfl));intro b_1 hg w5 hbox hb;have a_P:=a_g.mk (hbox);have m_e:=a_g.mk ((by rw [hg];exact (a_n (lup_ HB.out)) : w.heap.size ≤ b_1));have b_6:=a_g.mk ((by rw [hg];exact (a_n (lup_ HB.out)) : w.heap.size ≤ b_1));replace HB:=a_g.mk (a_p (lup_ HB.out) hb);clear hb hbox hg)|((with_reducible refine a_J (f:=5) rfl ?_);refine b_t (some 6) rfl rfl Tryd.func5 (by kernel_rfl) rfl #[] rfl (by (try simp only [List.map_toArray,List.map_cons,List.map_nil]);first|done|rfl|(simp only [List.length_drop,List.length_take];rfl)) ?_;(with_reducible refine (a_Q.calls k  true _ A2.out).mono ?_);rintro e w6 ⟨rfl,hb⟩;refine ⟨_,rfl,?_⟩;replace a_P:=a_g.mk (a_m (bup_ a_P.out) hb);replace HB:=a_g.mk (a_p (by repeat (first|(with_reducible first|exact HB.out|apply a_j|apply a_f|apply a_k|refine a_i ?_ b_6.out)|exact HB.out)) hb);(try clear hb);(try clear hb2);(try clear hk);(try clear hi);have f_e : w6.cell? ⟨b_1,0,none⟩ = some (.int .i64 a0_0):=(a_b a_P.out 0).trans rfl;have f_f : w6.cell? ⟨b_1,1,none⟩ = some (.slice A0_1 l0_1.length c0_1):=(a_b a_P.out 1).trans rfl;have f_g:=a_c a_P.out 0;have f_h:=a_c a_P.out 1))
  go_ret
  exact ⟨by first|rfl|(simp [a_u,a_v] <;> rfl)|(simp [*, a_u,a_v] <;> rfl),by repeat (first|(with_reducible first|exact HB.out|apply a_j|apply a_f|apply a_k|refine a_i ?_ b_6.out)|exact HB.out)⟩
 rw [if_neg c4] at H
 have c4b0 : decide (30 < (l0_1.length : Int)) = false:=decide_eq_false c4
 have c4b1 : decide (30 < l0_1.length) = false:=decide_eq_false (by omega)
 clear c4
 replace H:=Option.bind_eq_some_iff.mp H
 obtain ⟨t240,A80,H⟩:=H
 replace H : ((a_V.f k a0_0 l0_1).bind fun t241 => ((a_T.f k a0_0 l0_1).bind fun t242 => ((a_l.f k a0_0 l0_1).bind fun t245 => (if t245 = true then ((a_q.f k a0_0 l0_1).bind fun t246 => (if (t240 == t246) = true then ((a_s.f k a0_0 l0_1).bind fun t247 => (if (t241 == t247) = true then ((a_t.f k a0_0 l0_1).bind fun t248 => ((a_z.f k t242 t248).bind fun t251 => (some t251))) else (some false))) else (some false))) else (if t240 = true then (some false) else (if t241 = true then (some false) else (some ((t242.length : Int) == 0)))))))) = some r:=H
 have A8:=a_g.mk A80
 clear A80
 replace H:=Option.bind_eq_some_iff.mp H
 obtain ⟨t241,A90,H⟩:=H
 replace H : ((a_T.f k a0_0 l0_1).bind fun t242 => ((a_l.f k a0_0 l0_1).bind fun t245 => (if t245 = true then ((a_q.f k a0_0 l0_1).bind fun t246 => (if (t240 == t246) = true then ((a_s.f k a0_0 l0_1).bind fun t247 => (if (t241 == t247) = true then ((a_t.f k a0_0 l0_1).bind fun t248 => ((a_z.f k t242 t248).bind fun t251 => (some t251))) else (some false))) else (some false))) else (if t240 = true then (some false) else (if t241 = true then (some false) else (some ((t242.length : Int) == 0))))))) = some r:=H
 have A9:=a_g.mk A90
 clear A90
 replace H:=Option.bind_eq_some_iff.mp H
 obtain ⟨t242,A100,H⟩:=H
 replace H : ((a_l.f k a0_0 l0_1).bind fun t245 => (if t245 = true then ((a_q.f k a0_0 l0_1).bind fun t246 => (if (t240 == t246) = true then ((a_s.f k a0_0 l0_1).bind fun t247 => (if (t241 == t247) = true then ((a_t.f k a0_0 l0_1).bind fun t248 => ((a_z.f k t242 t248).bind fun t251 => (some t251))) else (some false))) else (some false))) else (if t240 = true then (some false) else (if t241 = true then (some false) else (some ((t242.length : Int) == 0)))))) = some r:=H
 have A10:=a_g.mk A100
 clear A100
 replace H:=Option.bind_eq_some_iff.mp H
 obtain ⟨t245,A110,H⟩:=H
 replace H : (if t245 = true then ((a_q.f k a0_0 l0_1).bind fun t246 => (if (t240 == t246) = true then ((a_s.f k a0_0 l0_1).bind fun t247 => (if (t241 == t247) = true then ((a_t.f k a0_0 l0_1).bind fun t248 => ((a_z.f k t242 t248).bind fun t251 => (some t251))) else (some false))) else (some false))) else (if t240 = true then (some false) else (if t241 = true then (some false) else (some ((t242.length : Int) == 0))))) = some r:=H
 have A11:=a_g.mk A110
 clear A110
 by_cases c12 : t245 = true
 rotate_left
 ·replace c12:=Bool.eq_false_iff.mpr c12
  subst c12
  have H1 : (if t240 = true then (some false) else (if t241 = true then (some false) else (some ((t242.length : Int) == 0)))) = some r:=by rw [if_neg (show ¬ (false = true) by decide)] at H;exact H
  clear H
  have H:=H1
  clear H1
  by_cases c60 : t240 = true
  ·subst c60
   have H1 : (some false) = some r:=by rw [if_pos rfl] at H;exact H
   clear H
   have H:=H1
   clear H1
   obtain rfl:=Option.some.inj H
   go_enter Tryd.func3,Tryd.ntmps3
   try go_wp2_with (first|((with_reducible refine a_G (N:=1) rfl ?_);(try (refine d_T (by rfl) ?_;dsimp only));refine a_C ?hg (N:=1) ?hd (cs:=#[.int .i64 a0_0,.slice A0_1 l0_1.length c0_1]) (t:=24) ?hr ?_;(case hd => rfl);(case hg => rfl);(case hr => first|(go_simp;done)|(go_simp;rfl));intro b_1 hg w61 hbox hb;have a_P:=a_g.mk (hbox);have m_e:=a_g.mk ((by rw [hg];exact (a_n (lup_ HB.out)) : w.heap.size ≤ b_1));have b_6:=a_g.mk ((by rw [hg];exact (a_n (lup_ HB.out)) : w.heap.size ≤ b_1));replace HB:=a_g.mk (a_p (lup_ HB.out) hb);clear hb hbox hg)|((with_reducible refine a_J (f:=5) rfl ?_);refine b_t (some 6) rfl rfl Tryd.func5 (by kernel_rfl) rfl #[] rfl (by (try simp only [List.map_toArray,List.map_cons,List.map_nil]);first|done|rfl|(simp only [List.length_drop,List.length_take];rfl)) ?_;(with_reducible refine (a_Q.calls k  true _ A2.out).mono ?_);rintro e w62 ⟨rfl,hb⟩;refine ⟨_,rfl,?_⟩;replace a_P:=a_g.mk (a_m (bup_ a_P.out) hb);replace HB:=a_g.mk (a_p (by repeat (first|(with_reducible first|exact HB.out|apply a_j|apply a_f|apply a_k|refine a_i ?_ b_6.out)|exact HB.out)) hb);(try clear hb);(try clear hb2);(try clear hk);(try clear hi);have q_r : w62.cell? ⟨b_1,0,none⟩ = some (.int .i64 a0_0):=(a_b a_P.out 0).trans rfl;have q_s : w62.cell? ⟨b_1,1,none⟩ = some (.slice A0_1 l0_1.length c0_1):=(a_b a_P.out 1).trans rfl;have r_h:=a_c a_P.out 0;have r_i:=a_c a_P.out 1))
   replace a_P:=a_g.mk (a_h a_P.out)
   replace HB:=a_g.mk (a_k HB.out)
   refine d_p (n:=9) (S:=fun w' => w'.cell? ⟨b_1,0,none⟩ = some (.int .i64 a0_0) ∧ w'.cell? ⟨b_1,1,none⟩ = some (.slice A0_1 l0_1.length c0_1)) (ds:=[]) Z3_ (by kernel_rfl) rfl rfl ⟨(a_b a_P.out 0).trans rfl,(a_b a_P.out 1).trans rfl⟩ (fun hHeld => ?_);refine b_T a_E.tab5 a_E.o_V (fun HT_ HW_ => ?_)
   generalize w62.drew = w64 at a_P HB hHeld ⊢
   refine b_z (i:=0) (N:=some 12) (v:=?_) (a':=?_) Z7_ rfl rfl (a_N HT_.out HW_.out (by kernel_rfl)) (fun _ _ _ h => h) (Or.inl ⟨by rfl,?_⟩) hHeld ?_ ?_
   rotate_left
   ·rintro w' ⟨s0,s1⟩
    go_simp
    with_reducible rfl
   rotate_left
   ·simp only [Act.put,sa_,sb_,sc_,a_0,a_1]
    rfl
   refine b_z (i:=2) (N:=some 14) (v:=?_) (a':=?_) Z8_ rfl rfl (a_N HT_.out HW_.out (by kernel_rfl)) (fun _ _ _ h => h) (Or.inl ⟨by rfl,?_⟩) hHeld ?_ ?_
   rotate_left
   ·rintro w' ⟨s0,s1⟩
    go_simp
    with_reducible rfl
   rotate_left
   ·simp only [Act.put,sa_,sb_,sc_,a_0,a_1]
    rfl
   refine b_z (i:=4) (N:=some 16) (v:=?_) (a':=?_) Z9_ rfl rfl (a_N HT_.out HW_.out (by kernel_rfl)) (fun _ _ _ h => h) (Or.inl ⟨by rfl,?_⟩) hHeld ?_ ?_
   rotate_left
   ·rintro w' ⟨s0,s1⟩
    go_simp
    with_reducible rfl
   rotate_left
   ·simp only [Act.put,sa_,sb_,sc_,a_0,a_1]
    rfl
   refine one_ (i:=1) (N:=some 13) Z16_ rfl rfl (b_W HT_.out (by kernel_rfl)) (by decide) (fun K hK => ?_)
   refine d_f Tryd.func6 (by kernel_rfl) rfl #[.agg #[.int .i64 a0_0,.slice A0_1 l0_1.length c0_1]] (by rfl) rfl rfl (by (try simp only [List.map_toArray,List.map_cons,List.map_nil]);first|done|rfl|(simp only [List.length_drop,List.length_take];rfl)) ?_
   with_reducible refine (a_I.calls k a0_0 _ _ l0_1 true _ ?side1 ?side2 A8.out).mono ?_
   (case side1 => repeat (first|exact (Kd.a_5 b_v.out HB.out)|(with_reducible refine Kd.a_8 ?_ _)|(with_reducible refine Kd.a_9 ?_ _)|(with_reducible refine Kd.b_p ?_)))
   (case side2 => exact c_b.out)
   rintro e w65 ⟨rfl,hb⟩
   refine ⟨_,rfl,?_⟩
   replace a_P:=a_g.mk (a_m (bup_ a_P.out) hb)
   replace HB:=a_g.mk (a_p (by repeat (first|(with_reducible first|exact HB.out|apply a_j|apply a_f|apply a_k|refine a_i ?_ b_6.out)|exact HB.out)) hb)
   (try clear hb)
   (try clear hb2)
   (try clear hk)
   (try clear hi)
   refine hK.out _ _ ⟨(a_b a_P.out 0).trans rfl,(a_b a_P.out 1).trans rfl⟩ (fun hHeld => ?_)
   clear hK K
   refine c_N (a':=?_) ?_ ?_
   rotate_left
   ·show Act.put _ (some 13) _ = _
    simp only [Act.put,sa_,sb_,sc_,a_0,a_1]
    rfl
   refine one_ (i:=3) (N:=some 15) Z23_ rfl rfl (b_W HT_.out (by kernel_rfl)) (by decide) (fun K hK => ?_)
   refine d_f Tryd.func7 (by kernel_rfl) rfl #[.agg #[.int .i64 a0_0,.slice A0_1 l0_1.length c0_1]] (by rfl) rfl rfl (by (try simp only [List.map_toArray,List.map_cons,List.map_nil]);first|done|rfl|(simp only [List.length_drop,List.length_take];rfl)) ?_
   with_reducible refine (a_V.calls k a0_0 _ _ l0_1 t241 _ ?side1 ?side2 A9.out).mono ?_
   (case side1 => repeat (first|exact (Kd.a_5 b_v.out HB.out)|(with_reducible refine Kd.a_8 ?_ _)|(with_reducible refine Kd.a_9 ?_ _)|(with_reducible refine Kd.b_p ?_)))
   (case side2 => exact c_b.out)
   rintro e w66 ⟨rfl,hb⟩
   refine ⟨_,rfl,?_⟩
   replace a_P:=a_g.mk (a_m (bup_ a_P.out) hb)
   replace HB:=a_g.mk (a_p (by repeat (first|(with_reducible first|exact HB.out|apply a_j|apply a_f|apply a_k|refine a_i ?_ b_6.out)|exact HB.out)) hb)
   (try clear hb)
   (try clear hb2)
   (try clear hk)
   (try clear hi)
   refine hK.out _ _ ⟨(a_b a_P.out 0).trans rfl,(a_b a_P.out 1).trans rfl⟩ (fun hHeld => ?_)
   clear hK K
   refine c_N (a':=?_) ?_ ?_
   rotate_left
   ·show Act.put _ (some 15) _ = _
    simp only [Act.put,sa_,sb_,sc_,a_0,a_1]
    rfl
   refine one_ (i:=5) (N:=some 17) Z27_ rfl rfl (b_W HT_.out (by kernel_rfl)) (by decide) (fun K hK => ?_)
   refine d_f Tryd.func8 (by kernel_rfl) rfl #[.agg #[.int .i64 a0_0,.slice A0_1 l0_1.length c0_1]] (by rfl) rfl rfl (by (try simp only [List.map_toArray,List.map_cons,List.map_nil]);first|done|rfl|(simp only [List.length_drop,List.length_take];rfl)) ?_
   with_reducible refine (a_T.calls k a0_0 _ _ l0_1 t242 _ ?side1 ?side2 ?side3 A10.out).mono ?_
   (case side1 => repeat (first|exact (Kd.a_5 b_v.out HB.out)|(with_reducible refine Kd.a_8 ?_ _)|(with_reducible refine Kd.a_9 ?_ _)|(with_reducible refine Kd.b_p ?_)))
   (case side2 => exact c_b.out)
   (case side3 => exact e_u.below HTAB_.out (by repeat (first|(with_reducible first|exact HB.out|apply a_j|apply a_f|apply a_k|refine a_i ?_ b_6.out)|exact HB.out)))
   rintro e w67 ⟨v243,rfl,ho0,hb⟩
   refine ⟨_,rfl,?_⟩
   have d_Q:=a_g.mk (Kd.e_M ho0 (a_n (by repeat (first|(with_reducible first|exact HB.out|apply a_j|apply a_f|apply a_k|refine a_i ?_ b_6.out)|exact HB.out))))
   replace a_P:=a_g.mk (a_m (bup_ a_P.out) hb)
   replace HB:=a_g.mk (a_p (by repeat (first|(with_reducible first|exact HB.out|apply a_j|apply a_f|apply a_k|refine a_i ?_ b_6.out)|exact HB.out)) hb)
   (try clear hb)
   (try clear hb2)
   (try clear hk)
   (try clear hi)
   (try clear ho0)
   refine hK.out _ _ ⟨(a_b a_P.out 0).trans rfl,(a_b a_P.out 1).trans rfl⟩ (fun hHeld => ?_)
   clear hK K
   refine c_N (a':=?_) ?_ ?_
   rotate_left
   ·show Act.put _ (some 17) _ = _
    simp only [Act.put,sa_,sb_,sc_,a_0,a_1]
    rfl
   refine pt_ 6 (some 3) Z31_ HT_ ?_
   refine pt_ 7 (some 4) Z38_ HT_ ?_
   refine pt_ 8 (some 5) l_L HT_ ?_
   refine e_U (c_E HT_.out (by kernel_rfl)) ?_
   have C_N : w67.cell? ⟨b_1,0,none⟩ = some (.int .i64 a0_0):=(a_b a_P.out 0).trans rfl
   have C_O : w67.cell? ⟨b_1,1,none⟩ = some (.slice A0_1 l0_1.length c0_1):=(a_b a_P.out 1).trans rfl
   have G_v:=a_c a_P.out 0
   have G_w:=a_c a_P.out 1
   try go_wp2_with (first|((with_reducible refine a_J (f:=9) rfl ?_);refine b_t (some 19) rfl rfl Tryd.func9 (by kernel_rfl) rfl #[.agg #[.int .i64 a0_0,.slice A0_1 l0_1.length c0_1]] rfl (by (try simp only [List.map_toArray,List.map_cons,List.map_nil]);first|done|rfl|(simp only [List.length_drop,List.length_take];rfl)) ?_;(with_reducible refine (a_l.calls k a0_0 _ _ l0_1 false _ ?side1 ?side2 A11.out).mono ?_);(case side1 => repeat (first|exact (Kd.a_5 b_v.out HB.out)|(with_reducible refine Kd.a_8 ?_ _)|(with_reducible refine Kd.a_9 ?_ _)|(with_reducible refine Kd.b_p ?_)));(case side2 => exact c_b.out);rintro e w69 ⟨rfl,hb⟩;refine ⟨_,rfl,?_⟩;replace d_Q:=a_g.mk (Kd.c_A (rup_ d_Q.out) hb);replace a_P:=a_g.mk (a_m (bup_ a_P.out) hb);replace HB:=a_g.mk (a_p (by repeat (first|(with_reducible first|exact HB.out|apply a_j|apply a_f|apply a_k|refine a_i ?_ b_6.out)|exact HB.out)) hb);(try clear hb);(try clear hb2);(try clear hk);(try clear hi)))
   go_ret
   exact ⟨by first|rfl|(simp [a_u,a_v] <;> rfl)|(simp [*, a_u,a_v] <;> rfl),by repeat (first|(with_reducible first|exact HB.out|apply a_j|apply a_f|apply a_k|refine a_i ?_ b_6.out)|exact HB.out)⟩
  replace c60:=Bool.eq_false_iff.mpr c60
  subst c60
  have H1 : (if t241 = true then (some false) else (some ((t242.length : Int) == 0))) = some r:=by rw [if_neg (show ¬ (false = true) by decide)] at H;exact H
  clear H
  have H:=H1
  clear H1
  by_cases c70 : t241 = true
  ·subst c70
   have H1 : (some false) = some r:=by rw [if_pos rfl] at H;exact H
   clear H
   have H:=H1
   clear H1
   obtain rfl:=Option.some.inj H
   go_enter Tryd.func3,Tryd.ntmps3
   try go_wp2_with (first|((with_reducible refine a_G (N:=1) rfl ?_);(try (refine d_T (by rfl) ?_;dsimp only));refine a_C ?hg (N:=1) ?hd (cs:=#[.int .i64 a0_0,.slice A0_1 l0_1.length c0_1]) (t:=24) ?hr ?_;(case hd => rfl);(case hg => rfl);(case hr => first|(go_simp;done)|(go_simp;rfl));intro b_1 hg w71 hbox hb;have a_P:=a_g.mk (hbox);have m_e:=a_g.mk ((by rw [hg];exact (a_n (lup_ HB.out)) : w.heap.size ≤ b_1));have b_6:=a_g.mk ((by rw [hg];exact (a_n (lup_ HB.out)) : w.heap.size ≤ b_1));replace HB:=a_g.mk (a_p (lup_ HB.out) hb);clear hb hbox hg)|((with_reducible refine a_J (f:=5) rfl ?_);refine b_t (some 6) rfl rfl Tryd.func5 (by kernel_rfl) rfl #[] rfl (by (try simp only [List.map_toArray,List.map_cons,List.map_nil]);first|done|rfl|(simp only [List.length_drop,List.length_take];rfl)) ?_;(with_reducible refine (a_Q.calls k  true _ A2.out).mono ?_);rintro e w72 ⟨rfl,hb⟩;refine ⟨_,rfl,?_⟩;replace a_P:=a_g.mk (a_m (bup_ a_P.out) hb);replace HB:=a_g.mk (a_p (by repeat (first|(with_reducible first|exact HB.out|apply a_j|apply a_f|apply a_k|refine a_i ?_ b_6.out)|exact HB.out)) hb);(try clear hb);(try clear hb2);(try clear hk);(try clear hi);have C_9 : w72.cell? ⟨b_1,0,none⟩ = some (.int .i64 a0_0):=(a_b a_P.out 0).trans rfl;have D_a : w72.cell? ⟨b_1,1,none⟩ = some (.slice A0_1 l0_1.length c0_1):=(a_b a_P.out 1).trans rfl;have G_R:=a_c a_P.out 0;have G_S:=a_c a_P.out 1))
   replace a_P:=a_g.mk (a_h a_P.out)
   replace HB:=a_g.mk (a_k HB.out)
   refine d_p (n:=9) (S:=fun w' => w'.cell? ⟨b_1,0,none⟩ = some (.int .i64 a0_0) ∧ w'.cell? ⟨b_1,1,none⟩ = some (.slice A0_1 l0_1.length c0_1)) (ds:=[]) Z3_ (by kernel_rfl) rfl rfl ⟨(a_b a_P.out 0).trans rfl,(a_b a_P.out 1).trans rfl⟩ (fun hHeld => ?_);refine b_T a_E.tab5 a_E.o_V (fun HT_ HW_ => ?_)
   generalize w72.drew = w74 at a_P HB hHeld ⊢
   refine b_z (i:=0) (N:=some 12) (v:=?_) (a':=?_) Z7_ rfl rfl (a_N HT_.out HW_.out (by kernel_rfl)) (fun _ _ _ h => h) (Or.inl ⟨by rfl,?_⟩) hHeld ?_ ?_
   rotate_left
   ·rintro w' ⟨s0,s1⟩
    go_simp
    with_reducible rfl
   rotate_left
   ·simp only [Act.put,sa_,sb_,sc_,a_0,a_1]
    rfl
   refine b_z (i:=2) (N:=some 14) (v:=?_) (a':=?_) Z8_ rfl rfl (a_N HT_.out HW_.out (by kernel_rfl)) (fun _ _ _ h => h) (Or.inl ⟨by rfl,?_⟩) hHeld ?_ ?_
   rotate_left
   ·rintro w' ⟨s0,s1⟩
    go_simp
    with_reducible rfl
   rotate_left
   ·simp only [Act.put,sa_,sb_,sc_,a_0,a_1]
    rfl
   refine b_z (i:=4) (N:=some 16) (v:=?_) (a':=?_) Z9_ rfl rfl (a_N HT_.out HW_.out (by kernel_rfl)) (fun _ _ _ h => h) (Or.inl ⟨by rfl,?_⟩) hHeld ?_ ?_
   rotate_left
   ·rintro w' ⟨s0,s1⟩
    go_simp
    with_reducible rfl
   rotate_left
   ·simp only [Act.put,sa_,sb_,sc_,a_0,a_1]
    rfl
   refine one_ (i:=1) (N:=some 13) Z16_ rfl rfl (b_W HT_.out (by kernel_rfl)) (by decide) (fun K hK => ?_)
   refine d_f Tryd.func6 (by kernel_rfl) rfl #[.agg #[.int .i64 a0_0,.slice A0_1 l0_1.length c0_1]] (by rfl) rfl rfl (by (try simp only [List.map_toArray,List.map_cons,List.map_nil]);first|done|rfl|(simp only [List.length_drop,List.length_take];rfl)) ?_
   with_reducible refine (a_I.calls k a0_0 _ _ l0_1 false _ ?side1 ?side2 A8.out).mono ?_
   (case side1 => repeat (first|exact (Kd.a_5 b_v.out HB.out)|(with_reducible refine Kd.a_8 ?_ _)|(with_reducible refine Kd.a_9 ?_ _)|(with_reducible refine Kd.b_p ?_)))
   (case side2 => exact c_b.out)
   rintro e w75 ⟨rfl,hb⟩
   refine ⟨_,rfl,?_⟩
   replace a_P:=a_g.mk (a_m (bup_ a_P.out) hb)
   replace HB:=a_g.mk (a_p (by repeat (first|(with_reducible first|exact HB.out|apply a_j|apply a_f|apply a_k|refine a_i ?_ b_6.out)|exact HB.out)) hb)
   (try clear hb)
   (try clear hb2)
   (try clear hk)
   (try clear hi)
   refine hK.out _ _ ⟨(a_b a_P.out 0).trans rfl,(a_b a_P.out 1).trans rfl⟩ (fun hHeld => ?_)
   clear hK K
   refine c_N (a':=?_) ?_ ?_
   rotate_left
   ·show Act.put _ (some 13) _ = _
    simp only [Act.put,sa_,sb_,sc_,a_0,a_1]
    rfl
   refine one_ (i:=3) (N:=some 15) Z23_ rfl rfl (b_W HT_.out (by kernel_rfl)) (by decide) (fun K hK => ?_)
   refine d_f Tryd.func7 (by kernel_rfl) rfl #[.agg #[.int .i64 a0_0,.slice A0_1 l0_1.length c0_1]] (by rfl) rfl rfl (by (try simp only [List.map_toArray,List.map_cons,List.map_nil]);first|done|rfl|(simp only [List.length_drop,List.length_take];rfl)) ?_
   with_reducible refine (a_V.calls k a0_0 _ _ l0_1 true _ ?side1 ?side2 A9.out).mono ?_
   (case side1 => repeat (first|exact (Kd.a_5 b_v.out HB.out)|(with_reducible refine Kd.a_8 ?_ _)|(with_reducible refine Kd.a_9 ?_ _)|(with_reducible refine Kd.b_p ?_)))
   (case side2 => exact c_b.out)
   rintro e w76 ⟨rfl,hb⟩
   refine ⟨_,rfl,?_⟩
   replace a_P:=a_g.mk (a_m (bup_ a_P.out) hb)
   replace HB:=a_g.mk (a_p (by repeat (first|(with_reducible first|exact HB.out|apply a_j|apply a_f|apply a_k|refine a_i ?_ b_6.out)|exact HB.out)) hb)
   (try clear hb)
   (try clear hb2)
   (try clear hk)
   (try clear hi)
   refine hK.out _ _ ⟨(a_b a_P.out 0).trans rfl,(a_b a_P.out 1).trans rfl⟩ (fun hHeld => ?_)
   clear hK K
   refine c_N (a':=?_) ?_ ?_
   rotate_left
   ·show Act.put _ (some 15) _ = _
    simp only [Act.put,sa_,sb_,sc_,a_0,a_1]
    rfl
   refine one_ (i:=5) (N:=some 17) Z27_ rfl rfl (b_W HT_.out (by kernel_rfl)) (by decide) (fun K hK => ?_)
   refine d_f Tryd.func8 (by kernel_rfl) rfl #[.agg #[.int .i64 a0_0,.slice A0_1 l0_1.length c0_1]] (by rfl) rfl rfl (by (try simp only [List.map_toArray,List.map_cons,List.map_nil]);first|done|rfl|(simp only [List.length_drop,List.length_take];rfl)) ?_
   with_reducible refine (a_T.calls k a0_0 _ _ l0_1 t242 _ ?side1 ?side2 ?side3 A10.out).mono ?_
   (case side1 => repeat (first|exact (Kd.a_5 b_v.out HB.out)|(with_reducible refine Kd.a_8 ?_ _)|(with_reducible refine Kd.a_9 ?_ _)|(with_reducible refine Kd.b_p ?_)))
   (case side2 => exact c_b.out)
   (case side3 => exact e_u.below HTAB_.out (by repeat (first|(with_reducible first|exact HB.out|apply a_j|apply a_f|apply a_k|refine a_i ?_ b_6.out)|exact HB.out)))
   rintro e w77 ⟨v243,rfl,ho0,hb⟩
   refine ⟨_,rfl,?_⟩
   have d_Q:=a_g.mk (Kd.e_M ho0 (a_n (by repeat (first|(with_reducible first|exact HB.out|apply a_j|apply a_f|apply a_k|refine a_i ?_ b_6.out)|exact HB.out))))
   replace a_P:=a_g.mk (a_m (bup_ a_P.out) hb)
   replace HB:=a_g.mk (a_p (by repeat (first|(with_reducible first|exact HB.out|apply a_j|apply a_f|apply a_k|refine a_i ?_ b_6.out)|exact HB.out)) hb)
   (try clear hb)
   (try clear hb2)
   (try clear hk)
   (try clear hi)
   (try clear ho0)
   refine hK.out _ _ ⟨(a_b a_P.out 0).trans rfl,(a_b a_P.out 1).trans rfl⟩ (fun hHeld => ?_)
   clear hK K
   refine c_N (a':=?_) ?_ ?_
   rotate_left
   ·show Act.put _ (some 17) _ = _
    simp only [Act.put,sa_,sb_,sc_,a_0,a_1]
    rfl
   refine pt_ 6 (some 3) Z31_ HT_ ?_
   refine pt_ 7 (some 4) Z38_ HT_ ?_
   refine pt_ 8 (some 5) l_L HT_ ?_
   refine e_U (c_E HT_.out (by kernel_rfl)) ?_
   have u_3 : w77.cell? ⟨b_1,0,none⟩ = some (.int .i64 a0_0):=(a_b a_P.out 0).trans rfl
   have u_4 : w77.cell? ⟨b_1,1,none⟩ = some (.slice A0_1 l0_1.length c0_1):=(a_b a_P.out 1).trans rfl
   have w_P:=a_c a_P.out 0
   have w_Q:=a_c a_P.out 1
   try go_wp2_with (first|((with_reducible refine a_J (f:=9) rfl ?_);refine b_t (some 19) rfl rfl Tryd.func9 (by kernel_rfl) rfl #[.agg #[.int .i64 a0_0,.slice A0_1 l0_1.length c0_1]] rfl (by (try simp only [List.map_toArray,List.map_cons,List.map_nil]);first|done|rfl|(simp only [List.length_drop,List.length_take];rfl)) ?_;(with_reducible refine (a_l.calls k a0_0 _ _ l0_1 false _ ?side1 ?side2 A11.out).mono ?_);(case side1 => repeat (first|exact (Kd.a_5 b_v.out HB.out)|(with_reducible refine Kd.a_8 ?_ _)|(with_reducible refine Kd.a_9 ?_ _)|(with_reducible refine Kd.b_p ?_)));(case side2 => exact c_b.out);rintro e w79 ⟨rfl,hb⟩;refine ⟨_,rfl,?_⟩;replace d_Q:=a_g.mk (Kd.c_A (rup_ d_Q.out) hb);replace a_P:=a_g.mk (a_m (bup_ a_P.out) hb);replace HB:=a_g.mk (a_p (by repeat (first|(with_reducible first|exact HB.out|apply a_j|apply a_f|apply a_k|refine a_i ?_ b_6.out)|exact HB.out)) hb);(try clear hb);(try clear hb2);(try clear hk);(try clear hi)))
   go_ret
   exact ⟨by first|rfl|(simp [a_u,a_v] <;> rfl)|(simp [*, a_u,a_v] <;> rfl),by repeat (first|(with_reducible first|exact HB.out|apply a_j|apply a_f|apply a_k|refine a_i ?_ b_6.out)|exact HB.out)⟩
  replace c70:=Bool.eq_false_iff.mpr c70
  subst c70
  have H1 : (some ((t242.length : Int) == 0)) = some r:=by rw [if_neg (show ¬ (false = true) by decide)] at H;exact H
  clear H
  have H:=H1
  clear H1
  obtain rfl:=Option.some.inj H
  go_enter Tryd.func3,Tryd.ntmps3
  try go_wp2_with (first|((with_reducible refine a_G (N:=1) rfl ?_);(try (refine d_T (by rfl) ?_;dsimp only));refine a_C ?hg (N:=1) ?hd (cs:=#[.int .i64 a0_0,.slice A0_1 l0_1.length c0_1]) (t:=24) ?hr ?_;(case hd => rfl);(case hg => rfl);(case hr => first|(go_simp;done)|(go_simp;rfl));intro b_1 hg w80 hbox hb;have a_P:=a_g.mk (hbox);have m_e:=a_g.mk ((by rw [hg];exact (a_n (lup_ HB.out)) : w.heap.size ≤ b_1));have b_6:=a_g.mk ((by rw [hg];exact (a_n (lup_ HB.out)) : w.heap.size ≤ b_1));replace HB:=a_g.mk (a_p (lup_ HB.out) hb);clear hb hbox hg)|((with_reducible refine a_J (f:=5) rfl ?_);refine b_t (some 6) rfl rfl Tryd.func5 (by kernel_rfl) rfl #[] rfl (by (try simp only [List.map_toArray,List.map_cons,List.map_nil]);first|done|rfl|(simp only [List.length_drop,List.length_take];rfl)) ?_;(with_reducible refine (a_Q.calls k  true _ A2.out).mono ?_);rintro e w81 ⟨rfl,hb⟩;refine ⟨_,rfl,?_⟩;replace a_P:=a_g.mk (a_m (bup_ a_P.out) hb);replace HB:=a_g.mk (a_p (by repeat (first|(with_reducible first|exact HB.out|apply a_j|apply a_f|apply a_k|refine a_i ?_ b_6.out)|exact HB.out)) hb);(try clear hb);(try clear hb2);(try clear hk);(try clear hi);have D_u : w81.cell? ⟨b_1,0,none⟩ = some (.int .i64 a0_0):=(a_b a_P.out 0).trans rfl;have D_v : w81.cell? ⟨b_1,1,none⟩ = some (.slice A0_1 l0_1.length c0_1):=(a_b a_P.out 1).trans rfl;have H_c:=a_c a_P.out 0;have H_d:=a_c a_P.out 1))
  replace a_P:=a_g.mk (a_h a_P.out)
  replace HB:=a_g.mk (a_k HB.out)
  refine d_p (n:=9) (S:=fun w' => w'.cell? ⟨b_1,0,none⟩ = some (.int .i64 a0_0) ∧ w'.cell? ⟨b_1,1,none⟩ = some (.slice A0_1 l0_1.length c0_1)) (ds:=[]) Z3_ (by kernel_rfl) rfl rfl ⟨(a_b a_P.out 0).trans rfl,(a_b a_P.out 1).trans rfl⟩ (fun hHeld => ?_);refine b_T a_E.tab5 a_E.o_V (fun HT_ HW_ => ?_)
  generalize w81.drew = w83 at a_P HB hHeld ⊢
  refine b_z (i:=0) (N:=some 12) (v:=?_) (a':=?_) Z7_ rfl rfl (a_N HT_.out HW_.out (by kernel_rfl)) (fun _ _ _ h => h) (Or.inl ⟨by rfl,?_⟩) hHeld ?_ ?_
  rotate_left
  ·rintro w' ⟨s0,s1⟩
   go_simp
   with_reducible rfl
  rotate_left
  ·simp only [Act.put,sa_,sb_,sc_,a_0,a_1]
   rfl
  refine b_z (i:=2) (N:=some 14) (v:=?_) (a':=?_) Z8_ rfl rfl (a_N HT_.out HW_.out (by kernel_rfl)) (fun _ _ _ h => h) (Or.inl ⟨by rfl,?_⟩) hHeld ?_ ?_
  rotate_left
  ·rintro w' ⟨s0,s1⟩
   go_simp
   with_reducible rfl
  rotate_left
  ·simp only [Act.put,sa_,sb_,sc_,a_0,a_1]
   rfl
  refine b_z (i:=4) (N:=some 16) (v:=?_) (a':=?_) Z9_ rfl rfl (a_N HT_.out HW_.out (by kernel_rfl)) (fun _ _ _ h => h) (Or.inl ⟨by rfl,?_⟩) hHeld ?_ ?_
  rotate_left
  ·rintro w' ⟨s0,s1⟩
   go_simp
   with_reducible rfl
  rotate_left
  ·simp only [Act.put,sa_,sb_,sc_,a_0,a_1]
   rfl
  refine one_ (i:=1) (N:=some 13) Z16_ rfl rfl (b_W HT_.out (by kernel_rfl)) (by decide) (fun K hK => ?_)
  refine d_f Tryd.func6 (by kernel_rfl) rfl #[.agg #[.int .i64 a0_0,.slice A0_1 l0_1.length c0_1]] (by rfl) rfl rfl (by (try simp only [List.map_toArray,List.map_cons,List.map_nil]);first|done|rfl|(simp only [List.length_drop,List.length_take];rfl)) ?_
  with_reducible refine (a_I.calls k a0_0 _ _ l0_1 false _ ?side1 ?side2 A8.out).mono ?_
  (case side1 => repeat (first|exact (Kd.a_5 b_v.out HB.out)|(with_reducible refine Kd.a_8 ?_ _)|(with_reducible refine Kd.a_9 ?_ _)|(with_reducible refine Kd.b_p ?_)))
  (case side2 => exact c_b.out)
  rintro e w84 ⟨rfl,hb⟩
  refine ⟨_,rfl,?_⟩
  replace a_P:=a_g.mk (a_m (bup_ a_P.out) hb)
  replace HB:=a_g.mk (a_p (by repeat (first|(with_reducible first|exact HB.out|apply a_j|apply a_f|apply a_k|refine a_i ?_ b_6.out)|exact HB.out)) hb)
  (try clear hb)
  (try clear hb2)
  (try clear hk)
  (try clear hi)
  refine hK.out _ _ ⟨(a_b a_P.out 0).trans rfl,(a_b a_P.out 1).trans rfl⟩ (fun hHeld => ?_)
  clear hK K
  refine c_N (a':=?_) ?_ ?_
  rotate_left
  ·show Act.put _ (some 13) _ = _
   simp only [Act.put,sa_,sb_,sc_,a_0,a_1]
   rfl
  refine one_ (i:=3) (N:=some 15) Z23_ rfl rfl (b_W HT_.out (by kernel_rfl)) (by decide) (fun K hK => ?_)
  refine d_f Tryd.func7 (by kernel_rfl) rfl #[.agg #[.int .i64 a0_0,.slice A0_1 l0_1.length c0_1]] (by rfl) rfl rfl (by (try simp only [List.map_toArray,List.map_cons,List.map_nil]);first|done|rfl|(simp only [List.length_drop,List.length_take];rfl)) ?_
  with_reducible refine (a_V.calls k a0_0 _ _ l0_1 false _ ?side1 ?side2 A9.out).mono ?_
  (case side1 => repeat (first|exact (Kd.a_5 b_v.out HB.out)|(with_reducible refine Kd.a_8 ?_ _)|(with_reducible refine Kd.a_9 ?_ _)|(with_reducible refine Kd.b_p ?_)))
  (case side2 => exact c_b.out)
  rintro e w85 ⟨rfl,hb⟩
  refine ⟨_,rfl,?_⟩
  replace a_P:=a_g.mk (a_m (bup_ a_P.out) hb)
  replace HB:=a_g.mk (a_p (by repeat (first|(with_reducible first|exact HB.out|apply a_j|apply a_f|apply a_k|refine a_i ?_ b_6.out)|exact HB.out)) hb)
  (try clear hb)
  (try clear hb2)
  (try clear hk)
  (try clear hi)
  refine hK.out _ _ ⟨(a_b a_P.out 0).trans rfl,(a_b a_P.out 1).trans rfl⟩ (fun hHeld => ?_)
  clear hK K
  refine c_N (a':=?_) ?_ ?_
  rotate_left
  ·show Act.put _ (some 15) _ = _
   simp only [Act.put,sa_,sb_,sc_,a_0,a_1]
   rfl
  refine one_ (i:=5) (N:=some 17) Z27_ rfl rfl (b_W HT_.out (by kernel_rfl)) (by decide) (fun K hK => ?_)
  refine d_f Tryd.func8 (by kernel_rfl) rfl #[.agg #[.int .i64 a0_0,.slice A0_1 l0_1.length c0_1]] (by rfl) rfl rfl (by (try simp only [List.map_toArray,List.map_cons,List.map_nil]);first|done|rfl|(simp only [List.length_drop,List.length_take];rfl)) ?_
  with_reducible refine (a_T.calls k a0_0 _ _ l0_1 t242 _ ?side1 ?side2 ?side3 A10.out).mono ?_
  (case side1 => repeat (first|exact (Kd.a_5 b_v.out HB.out)|(with_reducible refine Kd.a_8 ?_ _)|(with_reducible refine Kd.a_9 ?_ _)|(with_reducible refine Kd.b_p ?_)))
  (case side2 => exact c_b.out)
  (case side3 => exact e_u.below HTAB_.out (by repeat (first|(with_reducible first|exact HB.out|apply a_j|apply a_f|apply a_k|refine a_i ?_ b_6.out)|exact HB.out)))
  rintro e w86 ⟨v243,rfl,ho0,hb⟩
  refine ⟨_,rfl,?_⟩
  have d_Q:=a_g.mk (Kd.e_M ho0 (a_n (by repeat (first|(with_reducible first|exact HB.out|apply a_j|apply a_f|apply a_k|refine a_i ?_ b_6.out)|exact HB.out))))
  replace a_P:=a_g.mk (a_m (bup_ a_P.out) hb)
  replace HB:=a_g.mk (a_p (by repeat (first|(with_reducible first|exact HB.out|apply a_j|apply a_f|apply a_k|refine a_i ?_ b_6.out)|exact HB.out)) hb)
  (try clear hb)
  (try clear hb2)
  (try clear hk)
  (try clear hi)
  (try clear ho0)
  refine hK.out _ _ ⟨(a_b a_P.out 0).trans rfl,(a_b a_P.out 1).trans rfl⟩ (fun hHeld => ?_)
  clear hK K
  refine c_N (a':=?_) ?_ ?_
  rotate_left
  ·show Act.put _ (some 17) _ = _
   simp only [Act.put,sa_,sb_,sc_,a_0,a_1]
   rfl
  refine pt_ 6 (some 3) Z31_ HT_ ?_
  refine pt_ 7 (some 4) Z38_ HT_ ?_
  refine pt_ 8 (some 5) l_L HT_ ?_
  refine e_U (c_E HT_.out (by kernel_rfl)) ?_
  have D_y : w86.cell? ⟨b_1,0,none⟩ = some (.int .i64 a0_0):=(a_b a_P.out 0).trans rfl
  have D_z : w86.cell? ⟨b_1,1,none⟩ = some (.slice A0_1 l0_1.length c0_1):=(a_b a_P.out 1).trans rfl
  have H_g:=a_c a_P.out 0
  have H_h:=a_c a_P.out 1
  try go_wp2_with (first|((with_reducible refine a_J (f:=9) rfl ?_);refine b_t (some 19) rfl rfl Tryd.func9 (by kernel_rfl) rfl #[.agg #[.int .i64 a0_0,.slice A0_1 l0_1.length c0_1]] rfl (by (try simp only [List.map_toArray,List.map_cons,List.map_nil]);first|done|rfl|(simp only [List.length_drop,List.length_take];rfl)) ?_;(with_reducible refine (a_l.calls k a0_0 _ _ l0_1 false _ ?side1 ?side2 A11.out).mono ?_);(case side1 => repeat (first|exact (Kd.a_5 b_v.out HB.out)|(with_reducible refine Kd.a_8 ?_ _)|(with_reducible refine Kd.a_9 ?_ _)|(with_reducible refine Kd.b_p ?_)));(case side2 => exact c_b.out);rintro e w88 ⟨rfl,hb⟩;refine ⟨_,rfl,?_⟩;replace d_Q:=a_g.mk (Kd.c_A (rup_ d_Q.out) hb);replace a_P:=a_g.mk (a_m (bup_ a_P.out) hb);replace HB:=a_g.mk (a_p (by repeat (first|(with_reducible first|exact HB.out|apply a_j|apply a_f|apply a_k|refine a_i ?_ b_6.out)|exact HB.out)) hb);(try clear hb);(try clear hb2);(try clear hk);(try clear hi);obtain ⟨Ao89,co89,eo89⟩:=Kd.g_x d_Q.out;subst eo89))
  go_ret
  exact ⟨by first|rfl|(simp [a_u,a_v] <;> rfl)|(simp [*, a_u,a_v] <;> rfl),by repeat (first|(with_reducible first|exact HB.out|apply a_j|apply a_f|apply a_k|refine a_i ?_ b_6.out)|exact HB.out)⟩
 subst c12
 have H1 : ((a_q.f k a0_0 l0_1).bind fun t246 => (if (t240 == t246) = true then ((a_s.f k a0_0 l0_1).bind fun t247 => (if (t241 == t247) = true then ((a_t.f k a0_0 l0_1).bind fun t248 => ((a_z.f k t242 t248).bind fun t251 => (some t251))) else (some false))) else (some false))) = some r:=by rw [if_pos rfl] at H;exact H
 clear H
 have H:=H1
 clear H1
 replace H:=Option.bind_eq_some_iff.mp H
 obtain ⟨t246,A130,H⟩:=H
 replace H : (if (t240 == t246) = true then ((a_s.f k a0_0 l0_1).bind fun t247 => (if (t241 == t247) = true then ((a_t.f k a0_0 l0_1).bind fun t248 => ((a_z.f k t242 t248).bind fun t251 => (some t251))) else (some false))) else (some false)) = some r:=H
 have A13:=a_g.mk A130
 clear A130
 by_cases c14 : (t240 == t246) = true
 rotate_left
 ·rw [if_neg c14] at H
  have c14b0 : (t240 == t246) = false:=by simpa using c14
  (try (have c14b1 : decide (t240 = t246) = false:=by simpa using c14))
  (try (have c14b2 : (t240 == t246) = false:=by simpa using c14))
  (try (have c14b3 : ¬ (t240 = t246):=by simpa using c14))
  clear c14
  obtain rfl:=Option.some.inj H
  go_enter Tryd.func3,Tryd.ntmps3
  try go_wp2_with (first|((with_reducible refine a_G (N:=1) rfl ?_);(try (refine d_T (by rfl) ?_;dsimp only));refine a_C ?hg (N:=1) ?hd (cs:=#[.int .i64 a0_0,.slice A0_1 l0_1.length c0_1]) (t:=24) ?hr ?_;(case hd => rfl);(case hg => rfl);(case hr => first|(go_simp;done)|(go_simp;rfl));intro b_1 hg w49 hbox hb;have a_P:=a_g.mk (hbox);have m_e:=a_g.mk ((by rw [hg];exact (a_n (lup_ HB.out)) : w.heap.size ≤ b_1));have b_6:=a_g.mk ((by rw [hg];exact (a_n (lup_ HB.out)) : w.heap.size ≤ b_1));replace HB:=a_g.mk (a_p (lup_ HB.out) hb);clear hb hbox hg)|((with_reducible refine a_J (f:=5) rfl ?_);refine b_t (some 6) rfl rfl Tryd.func5 (by kernel_rfl) rfl #[] rfl (by (try simp only [List.map_toArray,List.map_cons,List.map_nil]);first|done|rfl|(simp only [List.length_drop,List.length_take];rfl)) ?_;(with_reducible refine (a_Q.calls k  true _ A2.out).mono ?_);rintro e w50 ⟨rfl,hb⟩;refine ⟨_,rfl,?_⟩;replace a_P:=a_g.mk (a_m (bup_ a_P.out) hb);replace HB:=a_g.mk (a_p (by repeat (first|(with_reducible first|exact HB.out|apply a_j|apply a_f|apply a_k|refine a_i ?_ b_6.out)|exact HB.out)) hb);(try clear hb);(try clear hb2);(try clear hk);(try clear hi);have q_p : w50.cell? ⟨b_1,0,none⟩ = some (.int .i64 a0_0):=(a_b a_P.out 0).trans rfl;have q_q : w50.cell? ⟨b_1,1,none⟩ = some (.slice A0_1 l0_1.length c0_1):=(a_b a_P.out 1).trans rfl;have r_f:=a_c a_P.out 0;have r_g:=a_c a_P.out 1))
  replace a_P:=a_g.mk (a_h a_P.out)
  replace HB:=a_g.mk (a_k HB.out)
  refine d_p (n:=9) (S:=fun w' => w'.cell? ⟨b_1,0,none⟩ = some (.int .i64 a0_0) ∧ w'.cell? ⟨b_1,1,none⟩ = some (.slice A0_1 l0_1.length c0_1)) (ds:=[]) Z3_ (by kernel_rfl) rfl rfl ⟨(a_b a_P.out 0).trans rfl,(a_b a_P.out 1).trans rfl⟩ (fun hHeld => ?_);refine b_T a_E.tab5 a_E.o_V (fun HT_ HW_ => ?_)
  generalize w50.drew = w52 at a_P HB hHeld ⊢
  refine b_z (i:=0) (N:=some 12) (v:=?_) (a':=?_) Z7_ rfl rfl (a_N HT_.out HW_.out (by kernel_rfl)) (fun _ _ _ h => h) (Or.inl ⟨by rfl,?_⟩) hHeld ?_ ?_
  rotate_left
  ·rintro w' ⟨s0,s1⟩
   go_simp
   with_reducible rfl
  rotate_left
  ·simp only [Act.put,sa_,sb_,sc_,a_0,a_1]
   rfl
  refine b_z (i:=2) (N:=some 14) (v:=?_) (a':=?_) Z8_ rfl rfl (a_N HT_.out HW_.out (by kernel_rfl)) (fun _ _ _ h => h) (Or.inl ⟨by rfl,?_⟩) hHeld ?_ ?_
  rotate_left
  ·rintro w' ⟨s0,s1⟩
   go_simp
   with_reducible rfl
  rotate_left
  ·simp only [Act.put,sa_,sb_,sc_,a_0,a_1]
   rfl
  refine b_z (i:=4) (N:=some 16) (v:=?_) (a':=?_) Z9_ rfl rfl (a_N HT_.out HW_.out (by kernel_rfl)) (fun _ _ _ h => h) (Or.inl ⟨by rfl,?_⟩) hHeld ?_ ?_
  rotate_left
  ·rintro w' ⟨s0,s1⟩
   go_simp
   with_reducible rfl
  rotate_left
  ·simp only [Act.put,sa_,sb_,sc_,a_0,a_1]
   rfl
  refine one_ (i:=1) (N:=some 13) Z16_ rfl rfl (b_W HT_.out (by kernel_rfl)) (by decide) (fun K hK => ?_)
  refine d_f Tryd.func6 (by kernel_rfl) rfl #[.agg #[.int .i64 a0_0,.slice A0_1 l0_1.length c0_1]] (by rfl) rfl rfl (by (try simp only [List.map_toArray,List.map_cons,List.map_nil]);first|done|rfl|(simp only [List.length_drop,List.length_take];rfl)) ?_
  with_reducible refine (a_I.calls k a0_0 _ _ l0_1 t240 _ ?side1 ?side2 A8.out).mono ?_
  (case side1 => repeat (first|exact (Kd.a_5 b_v.out HB.out)|(with_reducible refine Kd.a_8 ?_ _)|(with_reducible refine Kd.a_9 ?_ _)|(with_reducible refine Kd.b_p ?_)))
  (case side2 => exact c_b.out)
  rintro e w53 ⟨rfl,hb⟩
  refine ⟨_,rfl,?_⟩
  replace a_P:=a_g.mk (a_m (bup_ a_P.out) hb)
  replace HB:=a_g.mk (a_p (by repeat (first|(with_reducible first|exact HB.out|apply a_j|apply a_f|apply a_k|refine a_i ?_ b_6.out)|exact HB.out)) hb)
  (try clear hb)
  (try clear hb2)
  (try clear hk)
  (try clear hi)
  refine hK.out _ _ ⟨(a_b a_P.out 0).trans rfl,(a_b a_P.out 1).trans rfl⟩ (fun hHeld => ?_)
  clear hK K
  refine c_N (a':=?_) ?_ ?_
  rotate_left
  ·show Act.put _ (some 13) _ = _
   simp only [Act.put,sa_,sb_,sc_,a_0,a_1]
   rfl
  refine one_ (i:=3) (N:=some 15) Z23_ rfl rfl (b_W HT_.out (by kernel_rfl)) (by decide) (fun K hK => ?_)
  refine d_f Tryd.func7 (by kernel_rfl) rfl #[.agg #[.int .i64 a0_0,.slice A0_1 l0_1.length c0_1]] (by rfl) rfl rfl (by (try simp only [List.map_toArray,List.map_cons,List.map_nil]);first|done|rfl|(simp only [List.length_drop,List.length_take];rfl)) ?_
  with_reducible refine (a_V.calls k a0_0 _ _ l0_1 t241 _ ?side1 ?side2 A9.out).mono ?_
  (case side1 => repeat (first|exact (Kd.a_5 b_v.out HB.out)|(with_reducible refine Kd.a_8 ?_ _)|(with_reducible refine Kd.a_9 ?_ _)|(with_reducible refine Kd.b_p ?_)))
  (case side2 => exact c_b.out)
  rintro e w54 ⟨rfl,hb⟩
  refine ⟨_,rfl,?_⟩
  replace a_P:=a_g.mk (a_m (bup_ a_P.out) hb)
  replace HB:=a_g.mk (a_p (by repeat (first|(with_reducible first|exact HB.out|apply a_j|apply a_f|apply a_k|refine a_i ?_ b_6.out)|exact HB.out)) hb)
  (try clear hb)
  (try clear hb2)
  (try clear hk)
  (try clear hi)
  refine hK.out _ _ ⟨(a_b a_P.out 0).trans rfl,(a_b a_P.out 1).trans rfl⟩ (fun hHeld => ?_)
  clear hK K
  refine c_N (a':=?_) ?_ ?_
  rotate_left
  ·show Act.put _ (some 15) _ = _
   simp only [Act.put,sa_,sb_,sc_,a_0,a_1]
   rfl
  refine one_ (i:=5) (N:=some 17) Z27_ rfl rfl (b_W HT_.out (by kernel_rfl)) (by decide) (fun K hK => ?_)
  refine d_f Tryd.func8 (by kernel_rfl) rfl #[.agg #[.int .i64 a0_0,.slice A0_1 l0_1.length c0_1]] (by rfl) rfl rfl (by (try simp only [List.map_toArray,List.map_cons,List.map_nil]);first|done|rfl|(simp only [List.length_drop,List.length_take];rfl)) ?_
  with_reducible refine (a_T.calls k a0_0 _ _ l0_1 t242 _ ?side1 ?side2 ?side3 A10.out).mono ?_
  (case side1 => repeat (first|exact (Kd.a_5 b_v.out HB.out)|(with_reducible refine Kd.a_8 ?_ _)|(with_reducible refine Kd.a_9 ?_ _)|(with_reducible refine Kd.b_p ?_)))
  (case side2 => exact c_b.out)
  (case side3 => exact e_u.below HTAB_.out (by repeat (first|(with_reducible first|exact HB.out|apply a_j|apply a_f|apply a_k|refine a_i ?_ b_6.out)|exact HB.out)))
  rintro e w55 ⟨v243,rfl,ho0,hb⟩
  refine ⟨_,rfl,?_⟩
  have d_Q:=a_g.mk (Kd.e_M ho0 (a_n (by repeat (first|(with_reducible first|exact HB.out|apply a_j|apply a_f|apply a_k|refine a_i ?_ b_6.out)|exact HB.out))))
  replace a_P:=a_g.mk (a_m (bup_ a_P.out) hb)
  replace HB:=a_g.mk (a_p (by repeat (first|(with_reducible first|exact HB.out|apply a_j|apply a_f|apply a_k|refine a_i ?_ b_6.out)|exact HB.out)) hb)
  (try clear hb)
  (try clear hb2)
  (try clear hk)
  (try clear hi)
  (try clear ho0)
  refine hK.out _ _ ⟨(a_b a_P.out 0).trans rfl,(a_b a_P.out 1).trans rfl⟩ (fun hHeld => ?_)
  clear hK K
  refine c_N (a':=?_) ?_ ?_
  rotate_left
  ·show Act.put _ (some 17) _ = _
   simp only [Act.put,sa_,sb_,sc_,a_0,a_1]
   rfl
  refine pt_ 6 (some 3) Z31_ HT_ ?_
  refine pt_ 7 (some 4) Z38_ HT_ ?_
  refine pt_ 8 (some 5) l_L HT_ ?_
  refine e_U (c_E HT_.out (by kernel_rfl)) ?_
  have u_T : w55.cell? ⟨b_1,0,none⟩ = some (.int .i64 a0_0):=(a_b a_P.out 0).trans rfl
  have u_U : w55.cell? ⟨b_1,1,none⟩ = some (.slice A0_1 l0_1.length c0_1):=(a_b a_P.out 1).trans rfl
  have w_F:=a_c a_P.out 0
  have w_G:=a_c a_P.out 1
  try go_wp2_with (first|((with_reducible refine a_J (f:=9) rfl ?_);refine b_t (some 19) rfl rfl Tryd.func9 (by kernel_rfl) rfl #[.agg #[.int .i64 a0_0,.slice A0_1 l0_1.length c0_1]] rfl (by (try simp only [List.map_toArray,List.map_cons,List.map_nil]);first|done|rfl|(simp only [List.length_drop,List.length_take];rfl)) ?_;(with_reducible refine (a_l.calls k a0_0 _ _ l0_1 true _ ?side1 ?side2 A11.out).mono ?_);(case side1 => repeat (first|exact (Kd.a_5 b_v.out HB.out)|(with_reducible refine Kd.a_8 ?_ _)|(with_reducible refine Kd.a_9 ?_ _)|(with_reducible refine Kd.b_p ?_)));(case side2 => exact c_b.out);rintro e w57 ⟨rfl,hb⟩;refine ⟨_,rfl,?_⟩;replace d_Q:=a_g.mk (Kd.c_A (rup_ d_Q.out) hb);replace a_P:=a_g.mk (a_m (bup_ a_P.out) hb);replace HB:=a_g.mk (a_p (by repeat (first|(with_reducible first|exact HB.out|apply a_j|apply a_f|apply a_k|refine a_i ?_ b_6.out)|exact HB.out)) hb);(try clear hb);(try clear hb2);(try clear hk);(try clear hi);have u_V : w57.cell? ⟨b_1,0,none⟩ = some (.int .i64 a0_0):=(a_b a_P.out 0).trans rfl;have C_g : w57.cell? ⟨b_1,1,none⟩ = some (.slice A0_1 l0_1.length c0_1):=(a_b a_P.out 1).trans rfl;have w_H:=a_c a_P.out 0;have F_Y:=a_c a_P.out 1)|((with_reducible refine a_J (f:=10) rfl ?_);refine b_t (some 34) rfl rfl Tryd.func10 (by kernel_rfl) rfl #[.agg #[.int .i64 a0_0,.slice A0_1 l0_1.length c0_1]] rfl (by (try simp only [List.map_toArray,List.map_cons,List.map_nil]);first|done|rfl|(simp only [List.length_drop,List.length_take];rfl)) ?_;(with_reducible refine (a_q.calls k a0_0 _ _ l0_1 t246 _ ?side1 ?side2 A13.out).mono ?_);(case side1 => repeat (first|exact (Kd.a_5 b_v.out HB.out)|(with_reducible refine Kd.a_8 ?_ _)|(with_reducible refine Kd.a_9 ?_ _)|(with_reducible refine Kd.b_p ?_)));(case side2 => exact c_b.out);rintro e w59 ⟨rfl,hb⟩;refine ⟨_,rfl,?_⟩;replace d_Q:=a_g.mk (Kd.c_A (rup_ d_Q.out) hb);replace a_P:=a_g.mk (a_m (bup_ a_P.out) hb);replace HB:=a_g.mk (a_p (by repeat (first|(with_reducible first|exact HB.out|apply a_j|apply a_f|apply a_k|refine a_i ?_ b_6.out)|exact HB.out)) hb);(try clear hb);(try clear hb2);(try clear hk);(try clear hi)))
  go_ret
  exact ⟨by first|rfl|(simp [a_u,a_v] <;> rfl)|(simp [*, a_u,a_v] <;> rfl),by repeat (first|(with_reducible first|exact HB.out|apply a_j|apply a_f|apply a_k|refine a_i ?_ b_6.out)|exact HB.out)⟩
 rw [if_pos c14] at H
 have c14b0 : (t240 == t246) = true:=c14
 (try (have c14b1 : decide (t240 = t246) = true:=by simpa using c14))
 (try (have c14b2 : (t240 == t246) = true:=by simpa using c14))
 clear c14
 replace H:=Option.bind_eq_some_iff.mp H
 obtain ⟨t247,A150,H⟩:=H
 replace H : (if (t241 == t247) = true then ((a_t.f k a0_0 l0_1).bind fun t248 => ((a_z.f k t242 t248).bind fun t251 => (some t251))) else (some false)) = some r:=H
 have A15:=a_g.mk A150
 clear A150
 by_cases c16 : (t241 == t247) = true
 rotate_left
 ·rw [if_neg c16] at H
  have c16b0 : (t241 == t247) = false:=by simpa using c16
  (try (have c16b1 : decide (t241 = t247) = false:=by simpa using c16))
  (try (have c16b2 : (t241 == t247) = false:=by simpa using c16))
  (try (have c16b3 : ¬ (t241 = t247):=by simpa using c16))
  clear c16
  obtain rfl:=Option.some.inj H
  go_enter Tryd.func3,Tryd.ntmps3
  try go_wp2_with (first|((with_reducible refine a_G (N:=1) rfl ?_);(try (refine d_T (by rfl) ?_;dsimp only));refine a_C ?hg (N:=1) ?hd (cs:=#[.int .i64 a0_0,.slice A0_1 l0_1.length c0_1]) (t:=24) ?hr ?_;(case hd => rfl);(case hg => rfl);(case hr => first|(go_simp;done)|(go_simp;rfl));intro b_1 hg w36 hbox hb;have a_P:=a_g.mk (hbox);have m_e:=a_g.mk ((by rw [hg];exact (a_n (lup_ HB.out)) : w.heap.size ≤ b_1));have b_6:=a_g.mk ((by rw [hg];exact (a_n (lup_ HB.out)) : w.heap.size ≤ b_1));replace HB:=a_g.mk (a_p (lup_ HB.out) hb);clear hb hbox hg)|((with_reducible refine a_J (f:=5) rfl ?_);refine b_t (some 6) rfl rfl Tryd.func5 (by kernel_rfl) rfl #[] rfl (by (try simp only [List.map_toArray,List.map_cons,List.map_nil]);first|done|rfl|(simp only [List.length_drop,List.length_take];rfl)) ?_;(with_reducible refine (a_Q.calls k  true _ A2.out).mono ?_);rintro e w37 ⟨rfl,hb⟩;refine ⟨_,rfl,?_⟩;replace a_P:=a_g.mk (a_m (bup_ a_P.out) hb);replace HB:=a_g.mk (a_p (by repeat (first|(with_reducible first|exact HB.out|apply a_j|apply a_f|apply a_k|refine a_i ?_ b_6.out)|exact HB.out)) hb);(try clear hb);(try clear hb2);(try clear hk);(try clear hi);have m_T : w37.cell? ⟨b_1,0,none⟩ = some (.int .i64 a0_0):=(a_b a_P.out 0).trans rfl;have m_U : w37.cell? ⟨b_1,1,none⟩ = some (.slice A0_1 l0_1.length c0_1):=(a_b a_P.out 1).trans rfl;have n_q:=a_c a_P.out 0;have n_r:=a_c a_P.out 1))
  replace a_P:=a_g.mk (a_h a_P.out)
  replace HB:=a_g.mk (a_k HB.out)
  refine d_p (n:=9) (S:=fun w' => w'.cell? ⟨b_1,0,none⟩ = some (.int .i64 a0_0) ∧ w'.cell? ⟨b_1,1,none⟩ = some (.slice A0_1 l0_1.length c0_1)) (ds:=[]) Z3_ (by kernel_rfl) rfl rfl ⟨(a_b a_P.out 0).trans rfl,(a_b a_P.out 1).trans rfl⟩ (fun hHeld => ?_);refine b_T a_E.tab5 a_E.o_V (fun HT_ HW_ => ?_)
  generalize w37.drew = w39 at a_P HB hHeld ⊢
  refine b_z (i:=0) (N:=some 12) (v:=?_) (a':=?_) Z7_ rfl rfl (a_N HT_.out HW_.out (by kernel_rfl)) (fun _ _ _ h => h) (Or.inl ⟨by rfl,?_⟩) hHeld ?_ ?_
  rotate_left
  ·rintro w' ⟨s0,s1⟩
   go_simp
   with_reducible rfl
  rotate_left
  ·simp only [Act.put,sa_,sb_,sc_,a_0,a_1]
   rfl
  refine b_z (i:=2) (N:=some 14) (v:=?_) (a':=?_) Z8_ rfl rfl (a_N HT_.out HW_.out (by kernel_rfl)) (fun _ _ _ h => h) (Or.inl ⟨by rfl,?_⟩) hHeld ?_ ?_
  rotate_left
  ·rintro w' ⟨s0,s1⟩
   go_simp
   with_reducible rfl
  rotate_left
  ·simp only [Act.put,sa_,sb_,sc_,a_0,a_1]
   rfl
  refine b_z (i:=4) (N:=some 16) (v:=?_) (a':=?_) Z9_ rfl rfl (a_N HT_.out HW_.out (by kernel_rfl)) (fun _ _ _ h => h) (Or.inl ⟨by rfl,?_⟩) hHeld ?_ ?_
  rotate_left
  ·rintro w' ⟨s0,s1⟩
   go_simp
   with_reducible rfl
  rotate_left
  ·simp only [Act.put,sa_,sb_,sc_,a_0,a_1]
   rfl
  refine one_ (i:=1) (N:=some 13) Z16_ rfl rfl (b_W HT_.out (by kernel_rfl)) (by decide) (fun K hK => ?_)
  refine d_f Tryd.func6 (by kernel_rfl) rfl #[.agg #[.int .i64 a0_0,.slice A0_1 l0_1.length c0_1]] (by rfl) rfl rfl (by (try simp only [List.map_toArray,List.map_cons,List.map_nil]);first|done|rfl|(simp only [List.length_drop,List.length_take];rfl)) ?_
  with_reducible refine (a_I.calls k a0_0 _ _ l0_1 t240 _ ?side1 ?side2 A8.out).mono ?_
  (case side1 => repeat (first|exact (Kd.a_5 b_v.out HB.out)|(with_reducible refine Kd.a_8 ?_ _)|(with_reducible refine Kd.a_9 ?_ _)|(with_reducible refine Kd.b_p ?_)))
  (case side2 => exact c_b.out)
  rintro e w40 ⟨rfl,hb⟩
  refine ⟨_,rfl,?_⟩
  replace a_P:=a_g.mk (a_m (bup_ a_P.out) hb)
  replace HB:=a_g.mk (a_p (by repeat (first|(with_reducible first|exact HB.out|apply a_j|apply a_f|apply a_k|refine a_i ?_ b_6.out)|exact HB.out)) hb)
  (try clear hb)
  (try clear hb2)
  (try clear hk)
  (try clear hi)
  refine hK.out _ _ ⟨(a_b a_P.out 0).trans rfl,(a_b a_P.out 1).trans rfl⟩ (fun hHeld => ?_)
  clear hK K
  refine c_N (a':=?_) ?_ ?_
  rotate_left
  ·show Act.put _ (some 13) _ = _
   simp only [Act.put,sa_,sb_,sc_,a_0,a_1]
   rfl
  refine one_ (i:=3) (N:=some 15) Z23_ rfl rfl (b_W HT_.out (by kernel_rfl)) (by decide) (fun K hK => ?_)
  refine d_f Tryd.func7 (by kernel_rfl) rfl #[.agg #[.int .i64 a0_0,.slice A0_1 l0_1.length c0_1]] (by rfl) rfl rfl (by (try simp only [List.map_toArray,List.map_cons,List.map_nil]);first|done|rfl|(simp only [List.length_drop,List.length_take];rfl)) ?_
  with_reducible refine (a_V.calls k a0_0 _ _ l0_1 t241 _ ?side1 ?side2 A9.out).mono ?_
  (case side1 => repeat (first|exact (Kd.a_5 b_v.out HB.out)|(with_reducible refine Kd.a_8 ?_ _)|(with_reducible refine Kd.a_9 ?_ _)|(with_reducible refine Kd.b_p ?_)))
  (case side2 => exact c_b.out)
  rintro e w41 ⟨rfl,hb⟩
  refine ⟨_,rfl,?_⟩
  replace a_P:=a_g.mk (a_m (bup_ a_P.out) hb)
  replace HB:=a_g.mk (a_p (by repeat (first|(with_reducible first|exact HB.out|apply a_j|apply a_f|apply a_k|refine a_i ?_ b_6.out)|exact HB.out)) hb)
  (try clear hb)
  (try clear hb2)
  (try clear hk)
  (try clear hi)
  refine hK.out _ _ ⟨(a_b a_P.out 0).trans rfl,(a_b a_P.out 1).trans rfl⟩ (fun hHeld => ?_)
  clear hK K
  refine c_N (a':=?_) ?_ ?_
  rotate_left
  ·show Act.put _ (some 15) _ = _
   simp only [Act.put,sa_,sb_,sc_,a_0,a_1]
   rfl
  refine one_ (i:=5) (N:=some 17) Z27_ rfl rfl (b_W HT_.out (by kernel_rfl)) (by decide) (fun K hK => ?_)
  refine d_f Tryd.func8 (by kernel_rfl) rfl #[.agg #[.int .i64 a0_0,.slice A0_1 l0_1.length c0_1]] (by rfl) rfl rfl (by (try simp only [List.map_toArray,List.map_cons,List.map_nil]);first|done|rfl|(simp only [List.length_drop,List.length_take];rfl)) ?_
  with_reducible refine (a_T.calls k a0_0 _ _ l0_1 t242 _ ?side1 ?side2 ?side3 A10.out).mono ?_
  (case side1 => repeat (first|exact (Kd.a_5 b_v.out HB.out)|(with_reducible refine Kd.a_8 ?_ _)|(with_reducible refine Kd.a_9 ?_ _)|(with_reducible refine Kd.b_p ?_)))
  (case side2 => exact c_b.out)
  (case side3 => exact e_u.below HTAB_.out (by repeat (first|(with_reducible first|exact HB.out|apply a_j|apply a_f|apply a_k|refine a_i ?_ b_6.out)|exact HB.out)))
  rintro e w42 ⟨v243,rfl,ho0,hb⟩
  refine ⟨_,rfl,?_⟩
  have d_Q:=a_g.mk (Kd.e_M ho0 (a_n (by repeat (first|(with_reducible first|exact HB.out|apply a_j|apply a_f|apply a_k|refine a_i ?_ b_6.out)|exact HB.out))))
  replace a_P:=a_g.mk (a_m (bup_ a_P.out) hb)
  replace HB:=a_g.mk (a_p (by repeat (first|(with_reducible first|exact HB.out|apply a_j|apply a_f|apply a_k|refine a_i ?_ b_6.out)|exact HB.out)) hb)
  (try clear hb)
  (try clear hb2)
  (try clear hk)
  (try clear hi)
  (try clear ho0)
  refine hK.out _ _ ⟨(a_b a_P.out 0).trans rfl,(a_b a_P.out 1).trans rfl⟩ (fun hHeld => ?_)
  clear hK K
  refine c_N (a':=?_) ?_ ?_
  rotate_left
  ·show Act.put _ (some 17) _ = _
   simp only [Act.put,sa_,sb_,sc_,a_0,a_1]
   rfl
  refine pt_ 6 (some 3) Z31_ HT_ ?_
  refine pt_ 7 (some 4) Z38_ HT_ ?_
  refine pt_ 8 (some 5) l_L HT_ ?_
  refine e_U (c_E HT_.out (by kernel_rfl)) ?_
  have u_q : w42.cell? ⟨b_1,0,none⟩ = some (.int .i64 a0_0):=(a_b a_P.out 0).trans rfl
  have u_r : w42.cell? ⟨b_1,1,none⟩ = some (.slice A0_1 l0_1.length c0_1):=(a_b a_P.out 1).trans rfl
  have w_c:=a_c a_P.out 0
  have w_d:=a_c a_P.out 1
  try go_wp2_with (first|((with_reducible refine a_J (f:=9) rfl ?_);refine b_t (some 19) rfl rfl Tryd.func9 (by kernel_rfl) rfl #[.agg #[.int .i64 a0_0,.slice A0_1 l0_1.length c0_1]] rfl (by (try simp only [List.map_toArray,List.map_cons,List.map_nil]);first|done|rfl|(simp only [List.length_drop,List.length_take];rfl)) ?_;(with_reducible refine (a_l.calls k a0_0 _ _ l0_1 true _ ?side1 ?side2 A11.out).mono ?_);(case side1 => repeat (first|exact (Kd.a_5 b_v.out HB.out)|(with_reducible refine Kd.a_8 ?_ _)|(with_reducible refine Kd.a_9 ?_ _)|(with_reducible refine Kd.b_p ?_)));(case side2 => exact c_b.out);rintro e w44 ⟨rfl,hb⟩;refine ⟨_,rfl,?_⟩;replace d_Q:=a_g.mk (Kd.c_A (rup_ d_Q.out) hb);replace a_P:=a_g.mk (a_m (bup_ a_P.out) hb);replace HB:=a_g.mk (a_p (by repeat (first|(with_reducible first|exact HB.out|apply a_j|apply a_f|apply a_k|refine a_i ?_ b_6.out)|exact HB.out)) hb);(try clear hb);(try clear hb2);(try clear hk);(try clear hi);have u_C : w44.cell? ⟨b_1,0,none⟩ = some (.int .i64 a0_0):=(a_b a_P.out 0).trans rfl;have u_D : w44.cell? ⟨b_1,1,none⟩ = some (.slice A0_1 l0_1.length c0_1):=(a_b a_P.out 1).trans rfl;have w_o:=a_c a_P.out 0;have w_p:=a_c a_P.out 1)|((with_reducible refine a_J (f:=10) rfl ?_);refine b_t (some 34) rfl rfl Tryd.func10 (by kernel_rfl) rfl #[.agg #[.int .i64 a0_0,.slice A0_1 l0_1.length c0_1]] rfl (by (try simp only [List.map_toArray,List.map_cons,List.map_nil]);first|done|rfl|(simp only [List.length_drop,List.length_take];rfl)) ?_;(with_reducible refine (a_q.calls k a0_0 _ _ l0_1 t246 _ ?side1 ?side2 A13.out).mono ?_);(case side1 => repeat (first|exact (Kd.a_5 b_v.out HB.out)|(with_reducible refine Kd.a_8 ?_ _)|(with_reducible refine Kd.a_9 ?_ _)|(with_reducible refine Kd.b_p ?_)));(case side2 => exact c_b.out);rintro e w46 ⟨rfl,hb⟩;refine ⟨_,rfl,?_⟩;replace d_Q:=a_g.mk (Kd.c_A (rup_ d_Q.out) hb);replace a_P:=a_g.mk (a_m (bup_ a_P.out) hb);replace HB:=a_g.mk (a_p (by repeat (first|(with_reducible first|exact HB.out|apply a_j|apply a_f|apply a_k|refine a_i ?_ b_6.out)|exact HB.out)) hb);(try clear hb);(try clear hb2);(try clear hk);(try clear hi);have B_f : w46.cell? ⟨b_1,0,none⟩ = some (.int .i64 a0_0):=(a_b a_P.out 0).trans rfl;have B_g : w46.cell? ⟨b_1,1,none⟩ = some (.slice A0_1 l0_1.length c0_1):=(a_b a_P.out 1).trans rfl;have E_X:=a_c a_P.out 0;have E_Y:=a_c a_P.out 1)|(go_at_call 11;(with_reducible refine (a_s.calls k a0_0 _ _ l0_1 t247 _ ?side1 ?side2 A15.out).mono ?_);(case side1 => repeat (first|exact (Kd.a_5 b_v.out HB.out)|(with_reducible refine Kd.a_8 ?_ _)|(with_reducible refine Kd.a_9 ?_ _)|(with_reducible refine Kd.b_p ?_)));(case side2 => exact c_b.out);rintro e w48 ⟨rfl,hb⟩;replace d_Q:=a_g.mk (Kd.c_A (rup_ d_Q.out) hb);replace a_P:=a_g.mk (a_m (bup_ a_P.out) hb);replace HB:=a_g.mk (a_p (by repeat (first|(with_reducible first|exact HB.out|apply a_j|apply a_f|apply a_k|refine a_i ?_ b_6.out)|exact HB.out)) hb);(try clear hb);(try clear hb2);(try clear hk);(try clear hi)))
  go_ret
  exact ⟨by first|rfl|(simp [a_u,a_v] <;> rfl)|(simp [*, a_u,a_v] <;> rfl),by repeat (first|(with_reducible first|exact HB.out|apply a_j|apply a_f|apply a_k|refine a_i ?_ b_6.out)|exact HB.out)⟩
 rw [if_pos c16] at H
 have c16b0 : (t241 == t247) = true:=c16
 (try (have c16b1 : decide (t241 = t247) = true:=by simpa using c16))
 (try (have c16b2 : (t241 == t247) = true:=by simpa using c16))
 clear c16
 replace H:=Option.bind_eq_some_iff.mp H
 obtain ⟨t248,A170,H⟩:=H
 replace H : ((a_z.f k t242 t248).bind fun t251 => (some t251)) = some r:=H
 have A17:=a_g.mk A170
 clear A170
 replace H:=Option.bind_eq_some_iff.mp H
 obtain ⟨t251,A180,H⟩:=H
 replace H : (some t251) = some r:=H
 have A18:=a_g.mk A180
 clear A180
 obtain rfl:=Option.some.inj H
 go_enter Tryd.func3,Tryd.ntmps3
 try go_wp2_with (first|((with_reducible refine a_G (N:=1) rfl ?_);(try (refine d_T (by rfl) ?_;dsimp only));refine a_C ?hg (N:=1) ?hd (cs:=#[.int .i64 a0_0,.slice A0_1 l0_1.length c0_1]) (t:=24) ?hr ?_;(case hd => rfl);(case hg => rfl);(case hr => first|(go_simp;done)|(go_simp;rfl));intro b_1 hg w19 hbox hb;have a_P:=a_g.mk (hbox);have m_e:=a_g.mk ((by rw [hg];exact (a_n (lup_ HB.out)) : w.heap.size ≤ b_1));have b_6:=a_g.mk ((by rw [hg];exact (a_n (lup_ HB.out)) : w.heap.size ≤ b_1));replace HB:=a_g.mk (a_p (lup_ HB.out) hb);clear hb hbox hg)|((with_reducible refine a_J (f:=5) rfl ?_);refine b_t (some 6) rfl rfl Tryd.func5 (by kernel_rfl) rfl #[] rfl (by (try simp only [List.map_toArray,List.map_cons,List.map_nil]);first|done|rfl|(simp only [List.length_drop,List.length_take];rfl)) ?_;(with_reducible refine (a_Q.calls k  true _ A2.out).mono ?_);rintro e w20 ⟨rfl,hb⟩;refine ⟨_,rfl,?_⟩;replace a_P:=a_g.mk (a_m (bup_ a_P.out) hb);replace HB:=a_g.mk (a_p (by repeat (first|(with_reducible first|exact HB.out|apply a_j|apply a_f|apply a_k|refine a_i ?_ b_6.out)|exact HB.out)) hb);(try clear hb);(try clear hb2);(try clear hk);(try clear hi);have k_i : w20.cell? ⟨b_1,0,none⟩ = some (.int .i64 a0_0):=(a_b a_P.out 0).trans rfl;have k_j : w20.cell? ⟨b_1,1,none⟩ = some (.slice A0_1 l0_1.length c0_1):=(a_b a_P.out 1).trans rfl;have k_M:=a_c a_P.out 0;have k_N:=a_c a_P.out 1))
 replace a_P:=a_g.mk (a_h a_P.out)
 replace HB:=a_g.mk (a_k HB.out)
 refine d_p (n:=9) (S:=fun w' => w'.cell? ⟨b_1,0,none⟩ = some (.int .i64 a0_0) ∧ w'.cell? ⟨b_1,1,none⟩ = some (.slice A0_1 l0_1.length c0_1)) (ds:=[]) Z3_ (by kernel_rfl) rfl rfl ⟨(a_b a_P.out 0).trans rfl,(a_b a_P.out 1).trans rfl⟩ (fun hHeld => ?_);refine b_T a_E.tab5 a_E.o_V (fun HT_ HW_ => ?_)
 generalize w20.drew = w22 at a_P HB hHeld ⊢
 refine b_z (i:=0) (N:=some 12) (v:=?_) (a':=?_) Z7_ rfl rfl (a_N HT_.out HW_.out (by kernel_rfl)) (fun _ _ _ h => h) (Or.inl ⟨by rfl,?_⟩) hHeld ?_ ?_
 rotate_left
 ·rintro w' ⟨s0,s1⟩
  go_simp
  with_reducible rfl
 rotate_left
 ·simp only [Act.put,sa_,sb_,sc_,a_0,a_1]
  rfl
 refine b_z (i:=2) (N:=some 14) (v:=?_) (a':=?_) Z8_ rfl rfl (a_N HT_.out HW_.out (by kernel_rfl)) (fun _ _ _ h => h) (Or.inl ⟨by rfl,?_⟩) hHeld ?_ ?_
 rotate_left
 ·rintro w' ⟨s0,s1⟩
  go_simp
  with_reducible rfl
 rotate_left
 ·simp only [Act.put,sa_,sb_,sc_,a_0,a_1]
  rfl
 refine b_z (i:=4) (N:=some 16) (v:=?_) (a':=?_) Z9_ rfl rfl (a_N HT_.out HW_.out (by kernel_rfl)) (fun _ _ _ h => h) (Or.inl ⟨by rfl,?_⟩) hHeld ?_ ?_
 rotate_left
 ·rintro w' ⟨s0,s1⟩
  go_simp
  with_reducible rfl
 rotate_left
 ·simp only [Act.put,sa_,sb_,sc_,a_0,a_1]
  rfl
 refine one_ (i:=1) (N:=some 13) Z16_ rfl rfl (b_W HT_.out (by kernel_rfl)) (by decide) (fun K hK => ?_)
 refine d_f Tryd.func6 (by kernel_rfl) rfl #[.agg #[.int .i64 a0_0,.slice A0_1 l0_1.length c0_1]] (by rfl) rfl rfl (by (try simp only [List.map_toArray,List.map_cons,List.map_nil]);first|done|rfl|(simp only [List.length_drop,List.length_take];rfl)) ?_
 with_reducible refine (a_I.calls k a0_0 _ _ l0_1 t240 _ ?side1 ?side2 A8.out).mono ?_
 (case side1 => repeat (first|exact (Kd.a_5 b_v.out HB.out)|(with_reducible refine Kd.a_8 ?_ _)|(with_reducible refine Kd.a_9 ?_ _)|(with_reducible refine Kd.b_p ?_)))
 (case side2 => exact c_b.out)
 rintro e w23 ⟨rfl,hb⟩
 refine ⟨_,rfl,?_⟩
 replace a_P:=a_g.mk (a_m (bup_ a_P.out) hb)
 replace HB:=a_g.mk (a_p (by repeat (first|(with_reducible first|exact HB.out|apply a_j|apply a_f|apply a_k|refine a_i ?_ b_6.out)|exact HB.out)) hb)
 (try clear hb)
 (try clear hb2)
 (try clear hk)
 (try clear hi)
 refine hK.out _ _ ⟨(a_b a_P.out 0).trans rfl,(a_b a_P.out 1).trans rfl⟩ (fun hHeld => ?_)
 clear hK K
 refine c_N (a':=?_) ?_ ?_
 rotate_left
 ·show Act.put _ (some 13) _ = _
  simp only [Act.put,sa_,sb_,sc_,a_0,a_1]
  rfl
 refine one_ (i:=3) (N:=some 15) Z23_ rfl rfl (b_W HT_.out (by kernel_rfl)) (by decide) (fun K hK => ?_)
 refine d_f Tryd.func7 (by kernel_rfl) rfl #[.agg #[.int .i64 a0_0,.slice A0_1 l0_1.length c0_1]] (by rfl) rfl rfl (by (try simp only [List.map_toArray,List.map_cons,List.map_nil]);first|done|rfl|(simp only [List.length_drop,List.length_take];rfl)) ?_
 with_reducible refine (a_V.calls k a0_0 _ _ l0_1 t241 _ ?side1 ?side2 A9.out).mono ?_
 (case side1 => repeat (first|exact (Kd.a_5 b_v.out HB.out)|(with_reducible refine Kd.a_8 ?_ _)|(with_reducible refine Kd.a_9 ?_ _)|(with_reducible refine Kd.b_p ?_)))
 (case side2 => exact c_b.out)
 rintro e w24 ⟨rfl,hb⟩
 refine ⟨_,rfl,?_⟩
 replace a_P:=a_g.mk (a_m (bup_ a_P.out) hb)
 replace HB:=a_g.mk (a_p (by repeat (first|(with_reducible first|exact HB.out|apply a_j|apply a_f|apply a_k|refine a_i ?_ b_6.out)|exact HB.out)) hb)
 (try clear hb)
 (try clear hb2)
 (try clear hk)
 (try clear hi)
 refine hK.out _ _ ⟨(a_b a_P.out 0).trans rfl,(a_b a_P.out 1).trans rfl⟩ (fun hHeld => ?_)
 clear hK K
 refine c_N (a':=?_) ?_ ?_
 rotate_left
 ·show Act.put _ (some 15) _ = _
  simp only [Act.put,sa_,sb_,sc_,a_0,a_1]
  rfl
 refine one_ (i:=5) (N:=some 17) Z27_ rfl rfl (b_W HT_.out (by kernel_rfl)) (by decide) (fun K hK => ?_)
 refine d_f Tryd.func8 (by kernel_rfl) rfl #[.agg #[.int .i64 a0_0,.slice A0_1 l0_1.length c0_1]] (by rfl) rfl rfl (by (try simp only [List.map_toArray,List.map_cons,List.map_nil]);first|done|rfl|(simp only [List.length_drop,List.length_take];rfl)) ?_
 with_reducible refine (a_T.calls k a0_0 _ _ l0_1 t242 _ ?side1 ?side2 ?side3 A10.out).mono ?_
 (case side1 => repeat (first|exact (Kd.a_5 b_v.out HB.out)|(with_reducible refine Kd.a_8 ?_ _)|(with_reducible refine Kd.a_9 ?_ _)|(with_reducible refine Kd.b_p ?_)))
 (case side2 => exact c_b.out)
 (case side3 => exact e_u.below HTAB_.out (by repeat (first|(with_reducible first|exact HB.out|apply a_j|apply a_f|apply a_k|refine a_i ?_ b_6.out)|exact HB.out)))
 rintro e w25 ⟨v243,rfl,ho0,hb⟩
 refine ⟨_,rfl,?_⟩
 have d_Q:=a_g.mk (Kd.e_M ho0 (a_n (by repeat (first|(with_reducible first|exact HB.out|apply a_j|apply a_f|apply a_k|refine a_i ?_ b_6.out)|exact HB.out))))
 replace a_P:=a_g.mk (a_m (bup_ a_P.out) hb)
 replace HB:=a_g.mk (a_p (by repeat (first|(with_reducible first|exact HB.out|apply a_j|apply a_f|apply a_k|refine a_i ?_ b_6.out)|exact HB.out)) hb)
 (try clear hb)
 (try clear hb2)
 (try clear hk)
 (try clear hi)
 (try clear ho0)
 refine hK.out _ _ ⟨(a_b a_P.out 0).trans rfl,(a_b a_P.out 1).trans rfl⟩ (fun hHeld => ?_)
 clear hK K
 refine c_N (a':=?_) ?_ ?_
 rotate_left
 ·show Act.put _ (some 17) _ = _
  simp only [Act.put,sa_,sb_,sc_,a_0,a_1]
  rfl
 refine pt_ 6 (some 3) Z31_ HT_ ?_
 refine pt_ 7 (some 4) Z38_ HT_ ?_
 refine pt_ 8 (some 5) l_L HT_ ?_
 refine e_U (c_E HT_.out (by kernel_rfl)) ?_
 have k_s : w25.cell? ⟨b_1,0,none⟩ = some (.int .i64 a0_0):=(a_b a_P.out 0).trans rfl
 have k_t : w25.cell? ⟨b_1,1,none⟩ = some (.slice A0_1 l0_1.length c0_1):=(a_b a_P.out 1).trans rfl
 have k_W:=a_c a_P.out 0
 have k_X:=a_c a_P.out 1
 try go_wp2_with (first|((with_reducible refine a_J (f:=9) rfl ?_);refine b_t (some 19) rfl rfl Tryd.func9 (by kernel_rfl) rfl #[.agg #[.int .i64 a0_0,.slice A0_1 l0_1.length c0_1]] rfl (by (try simp only [List.map_toArray,List.map_cons,List.map_nil]);first|done|rfl|(simp only [List.length_drop,List.length_take];rfl)) ?_;(with_reducible refine (a_l.calls k a0_0 _ _ l0_1 true _ ?side1 ?side2 A11.out).mono ?_);(case side1 => repeat (first|exact (Kd.a_5 b_v.out HB.out)|(with_reducible refine Kd.a_8 ?_ _)|(with_reducible refine Kd.a_9 ?_ _)|(with_reducible refine Kd.b_p ?_)));(case side2 => exact c_b.out);rintro e w27 ⟨rfl,hb⟩;refine ⟨_,rfl,?_⟩;replace d_Q:=a_g.mk (Kd.c_A (rup_ d_Q.out) hb);replace a_P:=a_g.mk (a_m (bup_ a_P.out) hb);replace HB:=a_g.mk (a_p (by repeat (first|(with_reducible first|exact HB.out|apply a_j|apply a_f|apply a_k|refine a_i ?_ b_6.out)|exact HB.out)) hb);(try clear hb);(try clear hb2);(try clear hk);(try clear hi);have h_e : w27.cell? ⟨b_1,0,none⟩ = some (.int .i64 a0_0):=(a_b a_P.out 0).trans rfl;have h_f : w27.cell? ⟨b_1,1,none⟩ = some (.slice A0_1 l0_1.length c0_1):=(a_b a_P.out 1).trans rfl;have h_l:=a_c a_P.out 0;have h_m:=a_c a_P.out 1)|((with_reducible refine a_J (f:=10) rfl ?_);refine b_t (some 34) rfl rfl Tryd.func10 (by kernel_rfl) rfl #[.agg #[.int .i64 a0_0,.slice A0_1 l0_1.length c0_1]] rfl (by (try simp only [List.map_toArray,List.map_cons,List.map_nil]);first|done|rfl|(simp only [List.length_drop,List.length_take];rfl)) ?_;(with_reducible refine (a_q.calls k a0_0 _ _ l0_1 t246 _ ?side1 ?side2 A13.out).mono ?_);(case side1 => repeat (first|exact (Kd.a_5 b_v.out HB.out)|(with_reducible refine Kd.a_8 ?_ _)|(with_reducible refine Kd.a_9 ?_ _)|(with_reducible refine Kd.b_p ?_)));(case side2 => exact c_b.out);rintro e w29 ⟨rfl,hb⟩;refine ⟨_,rfl,?_⟩;replace d_Q:=a_g.mk (Kd.c_A (rup_ d_Q.out) hb);replace a_P:=a_g.mk (a_m (bup_ a_P.out) hb);replace HB:=a_g.mk (a_p (by repeat (first|(with_reducible first|exact HB.out|apply a_j|apply a_f|apply a_k|refine a_i ?_ b_6.out)|exact HB.out)) hb);(try clear hb);(try clear hb2);(try clear hk);(try clear hi);have p_X : w29.cell? ⟨b_1,0,none⟩ = some (.int .i64 a0_0):=(a_b a_P.out 0).trans rfl;have p_Y : w29.cell? ⟨b_1,1,none⟩ = some (.slice A0_1 l0_1.length c0_1):=(a_b a_P.out 1).trans rfl;have q_O:=a_c a_P.out 0;have q_P:=a_c a_P.out 1)|(go_at_call 11;(with_reducible refine (a_s.calls k a0_0 _ _ l0_1 t247 _ ?side1 ?side2 A15.out).mono ?_);(case side1 => repeat (first|exact (Kd.a_5 b_v.out HB.out)|(with_reducible refine Kd.a_8 ?_ _)|(with_reducible refine Kd.a_9 ?_ _)|(with_reducible refine Kd.b_p ?_)));(case side2 => exact c_b.out);rintro e w31 ⟨rfl,hb⟩;replace d_Q:=a_g.mk (Kd.c_A (rup_ d_Q.out) hb);replace a_P:=a_g.mk (a_m (bup_ a_P.out) hb);replace HB:=a_g.mk (a_p (by repeat (first|(with_reducible first|exact HB.out|apply a_j|apply a_f|apply a_k|refine a_i ?_ b_6.out)|exact HB.out)) hb);(try clear hb);(try clear hb2);(try clear hk);(try clear hi);have t_1 : w31.cell? ⟨b_1,0,none⟩ = some (.int .i64 a0_0):=(a_b a_P.out 0).trans rfl;have t_2 : w31.cell? ⟨b_1,1,none⟩ = some (.slice A0_1 l0_1.length c0_1):=(a_b a_P.out 1).trans rfl;have v_O:=a_c a_P.out 0;have v_P:=a_c a_P.out 1)|(go_at_call 13;(with_reducible refine (a_t.calls k a0_0 _ _ l0_1 t248 _ ?side1 ?side2 A17.out).mono ?_);(case side1 => repeat (first|exact (Kd.a_5 b_v.out HB.out)|(with_reducible refine Kd.a_8 ?_ _)|(with_reducible refine Kd.a_9 ?_ _)|(with_reducible refine Kd.b_p ?_)));(case side2 => exact c_b.out);rintro e w33 ⟨v249,rfl,ho0,hb⟩;have t_a:=a_g.mk (Kd.e_M (Kd.s_G ho0 (Kd.R_lt (rup_ d_Q.out))) (a_n (by repeat (first|(with_reducible first|exact HB.out|apply a_j|apply a_f|apply a_k|refine a_i ?_ b_6.out)|exact HB.out))));replace d_Q:=a_g.mk (Kd.n_3 (rup_ d_Q.out) (Kd.i_V ho0) hb);replace a_P:=a_g.mk (a_m (bup_ a_P.out) hb);replace HB:=a_g.mk (a_p (by repeat (first|(with_reducible first|exact HB.out|apply a_j|apply a_f|apply a_k|refine a_i ?_ b_6.out)|exact HB.out)) hb);(try clear hb);(try clear hb2);(try clear hk);(try clear hi);(try clear ho0);obtain ⟨Ao34,co34,eo34⟩:=Kd.g_x d_Q.out;subst eo34;obtain ⟨Ao35,co35,eo35⟩:=Kd.g_x t_a.out;subst eo35)|(go_at_call 12;(with_reducible refine (a_z.calls k _ _ t242 _ _ t248 t251 _ ?side1 ?side2 ?side3 ?side4 A18.out).mono ?_);(case side1 => repeat (first|exact (Kd.d_1 d_Q.out).2.2|(with_reducible refine Kd.a_8 ?_ _)|(with_reducible refine Kd.a_9 ?_ _)|(with_reducible refine Kd.b_p ?_)));(case side2 => exact (Kd.d_1 d_Q.out).2.1);(case side3 => repeat (first|exact (Kd.d_1 t_a.out).2.2|(with_reducible refine Kd.a_8 ?_ _)|(with_reducible refine Kd.a_9 ?_ _)|(with_reducible refine Kd.b_p ?_)));(case side4 => exact (Kd.d_1 t_a.out).2.1);rintro e w' ⟨rfl,⟨nd,rfl⟩⟩))
 go_ret
 exact ⟨by first|rfl|(simp [a_u,a_v] <;> rfl)|(simp [*, a_u,a_v] <;> rfl),by repeat (first|(with_reducible first|exact HB.out|apply a_j|apply a_f|apply a_k|refine a_i ?_ b_6.out)|exact HB.out)⟩
end Go.Proofs.YtgglkfilkagblaaDoor.Q
end
section
namespace Go.Proofs.YtgglkfilkagblaaDoor.Pure
open Go.RowKit Go.Proofs.YtgglkfilkagblaaDoor.Q Go.Proofs.YtgglkfilkagblaaDoorW.PrintWords Go.Proofs.YtgglkfilkagblaaDoorW.PrintLast Go.Proofs.YtgglkfilkagblaaDoorW.PrintMore
set_option linter.unusedVariables false
set_option linter.unusedSimpArgs false
theorem e_1 (n : Nat) (h : n < 9223372036854775807) : wrap64 ((n : Int) + 1) = ((n + 1 : Nat) : Int):=by unfold wrap64;omega
theorem o_K (n : Nat) (h : n < 9223372036854775807) : wrap64 (((n + 1 : Nat) : Int) - 1) = (n : Int):=by unfold wrap64;omega
theorem y_B (n : Int) (h0 : -9223372036854775808 ≤ n) (h1 : n ≤ 9223372036854775807) : wrap64 n = n:=by unfold wrap64;omega
def win (a l h : Int) : Bool:=decide (l ≤ a) && decide (a ≤ h)
theorem y_C (a l h : Int) : a_F.f a l h = some (win a l h):=by
 unfold a_F.f win
 by_cases c : a ≥ l
 ·rw [if_pos c,decide_eq_true (show l ≤ a from c)];rfl
 rw [if_neg c,decide_eq_false (show ¬ l ≤ a from c)];rfl
def mayB (a : Int) : Bool:=decide (Go.bits .andNot .u32 a 255 = 0)
theorem H_E (a : Int) : c_w.f a = some (if mayB a = true then 0 else 140):=by
 unfold c_w.f mayB
 by_cases c : Go.bits .andNot .u32 a 255 = 0
 ·rw [if_pos c];simp [c]
 rw [if_neg c];simp [c]
def l_A (x : S33) : Bool:=win x.f0 1 16 && win x.f1 1 8 && win x.f2 0 8 && win x.f3 0 3 && win x.f4 (-1) 7 && mayB x.f7 && win x.f8 1 65535 && win x.f9 1 8 && win x.f10 0 800
theorem y_u (x : S33) : Ev (fun k => a_R.f k x.f0 x.f1 x.f2 x.f3 x.f4 x.f5 x.f6 x.f7 x.f8 x.f9 x.f10) (l_A x):=by
 have key : ∀ b : Bool,Ev (fun k => a_R.j0 k b x.f0 x.f1 x.f2 x.f3 x.f4 x.f5 x.f6 x.f7 x.f8 x.f9 x.f10) (b && win x.f4 (-1) 7 && mayB x.f7 && win x.f8 1 65535 && win x.f9 1 8 && win x.f10 0 800):=fun b => by
  refine Ev.step (f:=fun _ => some (b && win x.f4 (-1) 7 && mayB x.f7 && win x.f8 1 65535 && win x.f9 1 8 && win x.f10 0 800)) (fun k => ?_) (Ev.now _)
  rw [a_R.j0]
  simp only [y_C,H_E,Option.bind_some]
  cases b <;> cases win x.f4 (-1) 7 <;> cases mayB x.f7 <;> cases win x.f8 1 65535 <;> cases win x.f9 1 8 <;> simp
 unfold a_R.f
 simp only [y_C,Option.bind_some]
 unfold l_A
 cases h0 : win x.f0 1 16 <;> cases h1 : win x.f1 1 8 <;> cases h2 : win x.f2 0 8 <;> cases h3 : win x.f3 0 3 <;> simp only [if_true,if_false,Bool.false_eq_true] <;> first|exact key true|exact key false
def rOK (l : List S33) (i : Nat) : Bool:=l_A (a_a l (i : Int)) && (i == 0 || decide ((a_a l ((i - 1 : Nat) : Int)).f0 < (a_a l (i : Int)).f0)) && decide (((l.countP (fun s => s.f1 == (a_a l (i : Int)).f1) : Nat) : Int) = (a_a l (i : Int)).f9) && decide (((l.countP (fun s => d_U s (a_a l (i : Int)).f1 (a_a l (i : Int)).f8 (a_a l (i : Int)).f9 (a_a l (i : Int)).f10) : Nat) : Int) = (a_a l (i : Int)).f9)
def i_A (l : List S33) : Nat → Nat → Bool
 | 0,_ => true
 | n + 1,i => rOK l i && i_A l n (i + 1)
def tmB (a : Int) : Bool:=decide (0 ≤ a) && decide (a ≤ 1125899906842624)
theorem s_w (l : List S33) (hl : l.length ≤ 1000000) (a : Int) : ∀ n i,i + n = l.length → Ev (fun k => a_y.l0 k l (l.length : Int) (i : Int) a l) (i_A l n i && tmB a):=by
 intro n
 induction n with
 | zero =>
  intro i hi
  refine Ev.step (f:=fun _ => some (i_A l 0 i && tmB a)) (fun k => ?_) (Ev.now _)
  rw [a_y.l0,if_neg (by omega)]
  unfold i_A tmB
  by_cases c : a ≥ 0
  ·rw [if_pos c,decide_eq_true (show 0 ≤ a from c)];rfl
  rw [if_neg c,decide_eq_false (show ¬ 0 ≤ a from c)];rfl
 | succ n ih =>
  intro i hi
  have nxt:=ih (i + 1) (by omega)
  have h1 : ((i : Nat) : Int) < (l.length : Int):=by omega
  have h0 : (0 : Int) ≤ ((i : Nat) : Int):=by omega
  have hw:=e_1 i (by omega)
  have cs : ∀ (x : S33),b_g.f l x.f0 x.f1 x.f2 x.f3 x.f4 x.f5 x.f6 x.f7 x.f8 x.f9 x.f10 = some ((l.countP (fun s => s.f1 == x.f1) : Nat) : Int):=fun x => by unfold b_g.f;rw [if_pos (by omega)]
  have ca : ∀ (x : S33),b_e.f l x.f0 x.f1 x.f2 x.f3 x.f4 x.f5 x.f6 x.f7 x.f8 x.f9 x.f10 x.f0 x.f1 x.f2 x.f3 x.f4 x.f5 x.f6 x.f7 x.f8 x.f9 x.f10 = some ((l.countP (fun s => d_U s x.f1 x.f8 x.f9 x.f10) : Nat) : Int):=fun x => by unfold b_e.f;rw [if_pos (by omega)]
  refine Ev.step (fun k => by rw [a_y.l0,if_pos h1,if_pos h0,if_pos h1]) ?_
  refine Ev.bind (y_u _) ?_
  simp only [cs,ca,Option.bind_some,hw]
  unfold i_A rOK
  cases hs : l_A (a_a l (i : Int))
  ·exact Ev.now _
  simp only [if_true,Bool.true_and]
  have tail : Ev (fun k => if ((l.countP (fun s => s.f1 == (a_a l (i : Int)).f1) : Nat) : Int) = (a_a l (i : Int)).f9 then (if ((l.countP (fun s => d_U s (a_a l (i : Int)).f1 (a_a l (i : Int)).f8 (a_a l (i : Int)).f9 (a_a l (i : Int)).f10) : Nat) : Int) = (a_a l (i : Int)).f9 then a_y.l0 k l (l.length : Int) ((i + 1 : Nat) : Int) a l else some false) else some false)
   (decide (((l.countP (fun s => s.f1 == (a_a l (i : Int)).f1) : Nat) : Int) = (a_a l (i : Int)).f9) && decide (((l.countP (fun s => d_U s (a_a l (i : Int)).f1 (a_a l (i : Int)).f8 (a_a l (i : Int)).f9 (a_a l (i : Int)).f10) : Nat) : Int) = (a_a l (i : Int)).f9) && (i_A l n (i + 1) && tmB a)):=by
   by_cases c1 : ((l.countP (fun s => s.f1 == (a_a l (i : Int)).f1) : Nat) : Int) = (a_a l (i : Int)).f9
   ·simp only [if_pos c1,decide_eq_true c1,Bool.true_and]
    by_cases c2 : ((l.countP (fun s => d_U s (a_a l (i : Int)).f1 (a_a l (i : Int)).f8 (a_a l (i : Int)).f9 (a_a l (i : Int)).f10) : Nat) : Int) = (a_a l (i : Int)).f9
    ·simp only [if_pos c2,decide_eq_true c2,Bool.true_and];exact nxt
    ·simp only [if_neg c2,decide_eq_false c2,Bool.false_and];exact Ev.now _
   ·simp only [if_neg c1,decide_eq_false c1,Bool.false_and];exact Ev.now _
  cases i with
  | zero =>
   simp only [show ¬ ((0 : Nat) : Int) > 0 by omega,if_false,BEq.rfl,Bool.true_or,Bool.true_and,Bool.and_assoc] at tail ⊢
   exact tail
  | succ j =>
   have hp:=o_K j (by omega)
   simp only [show ((j + 1 : Nat) : Int) > 0 by omega,if_true,hp,show (0 : Int) ≤ (j : Int) by omega,show (j : Int) < (l.length : Int) by omega,show (j + 1 == 0) = false from rfl,Bool.false_or,Nat.add_sub_cancel]
   by_cases c : (a_a l (j : Int)).f0 < (a_a l ((j + 1 : Nat) : Int)).f0
   ·have c' : ¬ (a_a l (j : Int)).f0 ≥ (a_a l ((j + 1 : Nat) : Int)).f0:=by omega
    simp only [if_neg c',decide_eq_true c,Bool.true_and,Bool.and_assoc] at tail ⊢
    exact tail
   have c' : (a_a l (j : Int)).f0 ≥ (a_a l ((j + 1 : Nat) : Int)).f0:=by omega
   simp only [if_pos c',decide_eq_false c,Bool.false_and]
   exact Ev.now _
def f_u (a : Int) (l : List S33) : Bool:=i_A l l.length 0 && tmB a
theorem n_Y (a : Int) (l : List S33) (hl : l.length ≤ 1000000) : Ev (fun k => a_y.f k a l) (f_u a l):=s_w l hl a l.length 0 (by omega)
theorem wraps_u32 (n : Int) (h₀ : 0 ≤ n) (h₁ : n < 2 ^ 32) : IntKind.u32.wrap n = n:=by rw [IntKind.wrap_u32];omega
theorem s_N {a : Int} (h0 : 0 ≤ a) (h1 : a < 4294967296) : mayB a = decide (a < 256):=by
 obtain ⟨n,rfl⟩:=Int.eq_ofNat_of_zero_le h0
 have hn : n < 2 ^ 32:=by omega
 unfold mayB
 have e : Go.bits .andNot .u32 (n : Int) 255 = (((BitVec.ofNat 32 n &&& ~~~BitVec.ofNat 32 255).toNat : Nat) : Int):=by
  have h : Go.bits .andNot .u32 (n : Int) 255 = IntKind.u32.wrap (((BitVec.ofNat 32 n &&& ~~~BitVec.ofNat 32 255).toNat : Nat) : Int):=by
   simp only [Go.bits,BitVec.ofInt_natCast]
   rfl
  rw [h]
  exact wraps_u32 _ (Int.natCast_nonneg _) (by have:=BitVec.isLt (BitVec.ofNat 32 n &&& ~~~BitVec.ofNat 32 255);exact_mod_cast this)
 have tb : ∀ i,(BitVec.ofNat 32 n &&& ~~~BitVec.ofNat 32 255).toNat.testBit i = (n.testBit i && !(255 : Nat).testBit i):=fun i => by
  rw [BitVec.testBit_toNat,BitVec.getLsbD_and,BitVec.getLsbD_not,BitVec.getLsbD_ofNat,BitVec.getLsbD_ofNat]
  by_cases h : i < 32
  ·simp [h]
  have : n.testBit i = false:=Nat.testBit_lt_two_pow (Nat.lt_of_lt_of_le hn (Nat.pow_le_pow_right (by decide) (by omega)))
  simp [h,this]
 rw [e]
 by_cases c : n < 256
 rotate_left
 ·have hz : ¬ (BitVec.ofNat 32 n &&& ~~~BitVec.ofNat 32 255).toNat = 0:=fun h0 => c (by
   have : n < 2 ^ 8:=Nat.lt_pow_two_of_testBit n fun i hi => by
    have t:=tb i
    rw [h0,Nat.zero_testBit] at t
    have : (255 : Nat).testBit i = false:=Nat.testBit_lt_two_pow (Nat.lt_of_lt_of_le (by decide : 255 < 2 ^ 8) (Nat.pow_le_pow_right (by decide) hi))
    rw [this] at t
    simpa using t.symm
   simpa using this)
  rw [decide_eq_false (by omega),decide_eq_false (by omega)]
 have hz : (BitVec.ofNat 32 n &&& ~~~BitVec.ofNat 32 255).toNat = 0:=by
  apply Nat.eq_of_testBit_eq
  intro i
  rw [tb,Nat.zero_testBit]
  by_cases h : i < 8
  ·have : (255 : Nat).testBit i = true:=by
    have : i = 0 ∨ i = 1 ∨ i = 2 ∨ i = 3 ∨ i = 4 ∨ i = 5 ∨ i = 6 ∨ i = 7:=by omega
    rcases this with rfl|rfl|rfl|rfl|rfl|rfl|rfl|rfl <;> decide
   rw [this];simp
  have : n.testBit i = false:=Nat.testBit_lt_two_pow (Nat.lt_of_lt_of_le c (Nat.pow_le_pow_right (n:=2) (i:=8) (by decide) (by omega)))
  rw [this];rfl
 rw [hz,decide_eq_true (show ((0 : Nat) : Int) = 0 from rfl),decide_eq_true (by omega)]
theorem win1 {α : Type} (a l h : Int) (X Y : α) : (if a < l then Y else if a > h then Y else X) = if win a l h = true then X else Y:=by
 unfold win
 by_cases c1 : a < l
 ·rw [if_pos c1,decide_eq_false (by omega)];rfl
 rw [if_neg c1,decide_eq_true (by omega)]
 by_cases c2 : a > h
 ·rw [if_pos c2,decide_eq_false (by omega)];rfl
 rw [if_neg c2,decide_eq_true (by omega)];rfl
theorem win2 {α : Type} (a l h : Int) (X Y : α) : (if a ≥ l then if a ≤ h then X else Y else Y) = if win a l h = true then X else Y:=by
 unfold win
 by_cases c1 : a ≥ l
 rotate_left
 ·rw [if_neg c1,decide_eq_false (by omega)];rfl
 rw [if_pos c1,decide_eq_true (by omega)]
 by_cases c2 : a ≤ h
 ·rw [if_pos c2,decide_eq_true c2];rfl
 rw [if_neg c2,decide_eq_false c2];rfl
theorem win3 (a l h : Int) : (if a ≥ l then some (decide (a ≤ h)) else some false) = some (win a l h):=by
 unfold win
 by_cases c1 : a ≥ l
 ·rw [if_pos c1,decide_eq_true (show l ≤ a from c1)];rfl
 rw [if_neg c1,decide_eq_false (show ¬ l ≤ a from c1)];rfl
def May (x : S33) : Prop:=0 ≤ x.f7 ∧ x.f7 < 4294967296
theorem w_3 (x : S33) (hx : May x) : b_E.f x.f0 x.f1 x.f2 x.f3 x.f4 x.f5 x.f6 x.f7 x.f8 x.f9 x.f10 = some (l_A x):=by
 unfold b_E.f b_n.f l_A
 rw [s_N hx.1 hx.2]
 simp only [win1,win2,win3,Option.bind_some]
 cases win x.f0 1 16 <;> cases win x.f1 1 8 <;> cases win x.f2 0 8 <;> cases win x.f3 0 3 <;> cases win x.f4 (-1) 7 <;> cases decide (x.f7 < 256) <;> cases win x.f8 1 65535 <;> cases win x.f9 1 8 <;> simp
def h_S (x s : S33) : Bool:=s.f1 == x.f1
theorem o_T {x s : S33} (h : d_U s x.f1 x.f8 x.f9 x.f10 = true) : h_S x s = true:=by
 unfold d_U at h
 unfold h_S
 simp only [Bool.and_eq_true] at h
 exact h.1.1.1
theorem p_v {p q : S33 → Bool} (hpq : ∀ s,p s = true → q s = true) (l : List S33) : l.countP p ≤ l.countP q ∧ (l.countP p = l.countP q ↔ l.all (fun s => !q s || p s) = true):=by
 induction l with
 | nil => simp
 | cons s l ih =>
  obtain ⟨h1,h2⟩:=ih
  rw [List.countP_cons,List.countP_cons,List.all_cons]
  cases hp : p s <;> cases hq : q s
  ·simp;exact ⟨h1,h2.trans (by simp)⟩
  ·simp;omega
  ·rw [hpq s hp] at hq;cases hq
  simp;exact ⟨h1,h2.trans (by simp)⟩
def inB (x : S33) (r : List S33) (n : Nat) : Bool:=r.all (fun s => !h_S x s || d_U s x.f1 x.f8 x.f9 x.f10) && decide (((n + r.countP (h_S x) : Nat) : Int) = x.f9)
theorem w_Y (l : List S33) (x : S33) : inB x l 0 = (decide (((l.countP (fun s => s.f1 == x.f1) : Nat) : Int) = x.f9) && decide (((l.countP (fun s => d_U s x.f1 x.f8 x.f9 x.f10) : Nat) : Int) = x.f9)):=by
 obtain ⟨h1,h2⟩:=p_v (p:=fun s => d_U s x.f1 x.f8 x.f9 x.f10) (q:=h_S x) (fun s h => o_T h) l
 unfold inB
 show _ = (decide (((l.countP (h_S x) : Nat) : Int) = x.f9) && _)
 rw [Nat.zero_add]
 by_cases c : ((l.countP (h_S x) : Nat) : Int) = x.f9
 rotate_left
 ·rw [decide_eq_false c,Bool.and_false,Bool.false_and]
 rw [decide_eq_true c,Bool.and_true,Bool.true_and]
 cases ha : l.all (fun s => !h_S x s || d_U s x.f1 x.f8 x.f9 x.f10)
 ·have : ¬ l.countP (fun s => d_U s x.f1 x.f8 x.f9 x.f10) = l.countP (h_S x):=fun e => by rw [h2.1 e] at ha;cases ha
  rw [decide_eq_false (by omega)]
 have:=h2.2 ha
 rw [decide_eq_true (by omega)]
theorem rd65 (l : List S33) (j : Nat) (hj : j < l.length) : a_a l (j : Int) = l[j]:=by
 unfold a_a;rw [Int.toNat_natCast,List.getD_eq_getElem?_getD,List.getElem?_eq_getElem hj];rfl
theorem o_3 (l : List S33) (hl : l.length ≤ 1000000) (a : Int) (x : S33) (i : Nat) (hi : i < l.length) (R : Bool) (hn : Ev (fun k => a_l.l0 k ((i + 1 : Nat) : Int) a l) R) :
 ∀ d j n,j + d = l.length → n ≤ j → Ev (fun k => a_l.l1 k (i : Int) (n : Int) (j : Int) a l x.f0 x.f1 x.f2 x.f3 x.f4 x.f5 x.f6 x.f7 x.f8 x.f9 x.f10) (inB x (l.drop j) n && R):=by
 intro d
 induction d with
 | zero =>
  intro j n hj hnj
  have hd : l.drop j = []:=List.drop_eq_nil_of_le (by omega)
  rw [hd]
  refine Ev.step (fun k => by rw [a_l.l1,if_neg (by omega),e_1 i (by omega)]) ?_
  show Ev _ (decide ((n : Int) = x.f9) && R)
  by_cases c : (n : Int) = x.f9
  ·simp only [if_pos c,decide_eq_true c,Bool.true_and];exact hn
  simp only [if_neg c,decide_eq_false c,Bool.false_and];exact Ev.now _
 | succ d ih =>
  intro j n hj hnj
  have h1 : (j : Int) < (l.length : Int):=by omega
  have h0 : (0 : Int) ≤ (j : Int):=by omega
  have hd : l.drop j = l[j] :: l.drop (j + 1):=List.drop_eq_getElem_cons (by omega)
  rw [hd]
  refine Ev.step (fun k => by rw [a_l.l1,if_pos h1,if_pos h0,e_1 j (by omega),e_1 n (by omega),rd65 l j (by omega)]) ?_
  have i0:=ih (j + 1) n (by omega) (by omega)
  have i1:=ih (j + 1) (n + 1) (by omega) (by omega)
  unfold inB at i0 i1 ⊢
  rw [List.all_cons,List.countP_cons]
  by_cases c : l[j].f1 = x.f1
  rotate_left
  ·have cs : h_S x l[j] = false:=by unfold h_S;simp [c]
   simp only [if_neg c,cs,Bool.not_false,Bool.true_or,Bool.true_and,Bool.false_eq_true,if_false,Nat.add_zero]
   exact i0
  have cs : h_S x l[j] = true:=by unfold h_S;rw [c];exact BEq.rfl
  have e : n + ((l.drop (j + 1)).countP (h_S x) + 1) = n + 1 + (l.drop (j + 1)).countP (h_S x):=by omega
  simp only [if_pos c,cs,Bool.not_true,Bool.false_or,if_true,e]
  by_cases c8 : l[j].f8 = x.f8
  rotate_left
  ·have ca : d_U l[j] x.f1 x.f8 x.f9 x.f10 = false:=by unfold d_U;simp [c8]
   simp only [if_neg c8,ca,Bool.false_and];exact Ev.now _
  by_cases c9 : l[j].f9 = x.f9
  rotate_left
  ·have ca : d_U l[j] x.f1 x.f8 x.f9 x.f10 = false:=by unfold d_U;simp [c9]
   simp only [if_pos c8,if_neg c9,ca,Bool.false_and];exact Ev.now _
  by_cases c10 : l[j].f10 = x.f10
  ·have ca : d_U l[j] x.f1 x.f8 x.f9 x.f10 = true:=by unfold d_U;rw [c,c8,c9,c10];simp
   simp only [if_pos c8,if_pos c9,if_pos c10,ca,Bool.true_and];exact i1
  have ca : d_U l[j] x.f1 x.f8 x.f9 x.f10 = false:=by unfold d_U;simp [c10]
  simp only [if_pos c8,if_pos c9,if_neg c10,ca,Bool.false_and];exact Ev.now _
theorem o_2 (l : List S33) (hl : l.length ≤ 1000000) (hm : ∀ i : Int,May (a_a l i)) (a : Int) : ∀ d i,i + d = l.length → Ev (fun k => a_l.l0 k (i : Int) a l) (i_A l d i):=by
 intro d
 induction d with
 | zero =>
  intro i hi
  exact Ev.step (f:=fun _ => some true) (fun k => by rw [a_l.l0,if_neg (by omega)]) (Ev.now _)
 | succ d ih =>
  intro i hi
  have nxt:=ih (i + 1) (by omega)
  have h1 : (i : Int) < (l.length : Int):=by omega
  have h0 : (0 : Int) ≤ (i : Int):=by omega
  have inn:=o_3 l hl a (a_a l (i : Int)) i (by omega) _ nxt l.length 0 0 (by omega) (Nat.le_refl _)
  rw [List.drop_zero,w_Y] at inn
  have jt : Ev (fun k => a_l.j2 k (i : Int) true a l (a_a l (i : Int)).f0 (a_a l (i : Int)).f1 (a_a l (i : Int)).f2 (a_a l (i : Int)).f3 (a_a l (i : Int)).f4 (a_a l (i : Int)).f5 (a_a l (i : Int)).f6 (a_a l (i : Int)).f7 (a_a l (i : Int)).f8 (a_a l (i : Int)).f9 (a_a l (i : Int)).f10) false :=
   Ev.step (f:=fun _ => some false) (fun k => by rw [a_l.j2,if_pos rfl]) (Ev.now _)
  have jf:=Ev.step (g:=fun k => a_l.j2 k (i : Int) false a l (a_a l (i : Int)).f0 (a_a l (i : Int)).f1 (a_a l (i : Int)).f2 (a_a l (i : Int)).f3 (a_a l (i : Int)).f4 (a_a l (i : Int)).f5 (a_a l (i : Int)).f6 (a_a l (i : Int)).f7 (a_a l (i : Int)).f8 (a_a l (i : Int)).f9 (a_a l (i : Int)).f10) (fun k => by rw [a_l.j2,if_neg (by decide)];rfl) inn
  refine Ev.step (fun k => by rw [a_l.l0,if_pos h1,if_pos h0]) ?_
  simp only [w_3 _ (hm _),Option.bind_some]
  unfold i_A rOK
  cases hs : l_A (a_a l (i : Int))
  ·simp only [Bool.false_eq_true,if_false,Bool.false_and];exact jt
  simp only [if_true,Bool.true_and]
  cases i with
  | zero =>
   simp only [show ¬ ((0 : Nat) : Int) > 0 by omega,if_false,BEq.rfl,Bool.true_or,Bool.true_and,Bool.and_assoc] at jf ⊢
   exact jf
  | succ j =>
   simp only [show ((j + 1 : Nat) : Int) > 0 by omega,if_true,o_K j (by omega),show (0 : Int) ≤ (j : Int) by omega,show (j : Int) < (l.length : Int) by omega,show (j + 1 == 0) = false from rfl,Bool.false_or,Nat.add_sub_cancel]
   by_cases c : (a_a l (j : Int)).f0 < (a_a l ((j + 1 : Nat) : Int)).f0
   ·rw [decide_eq_true c,decide_eq_false (show ¬ (a_a l (j : Int)).f0 ≥ (a_a l ((j + 1 : Nat) : Int)).f0 by omega)]
    simp only [Bool.true_and,Bool.and_assoc] at jf ⊢
    exact jf
   rw [decide_eq_false c,decide_eq_true (show (a_a l (j : Int)).f0 ≥ (a_a l ((j + 1 : Nat) : Int)).f0 by omega)]
   simp only [Bool.false_and]
   exact jt
theorem r_w (l : List S33) (hl : l.length ≤ 1000000) (hm : ∀ i : Int,May (a_a l i)) (a : Int) : Ev (fun k => a_l.f k a l) (f_u a l):=by
 have key : ∀ b : Bool,Ev (fun k => a_l.j0 k b a l) (!b && i_A l l.length 0):=fun b => by
  cases b
  ·exact Ev.step (fun k => by rw [a_l.j0,if_neg (by decide)];rfl) (o_2 l hl hm a l.length 0 (by omega))
  exact Ev.step (f:=fun _ => some false) (fun k => by rw [a_l.j0,if_pos rfl]) (Ev.now _)
 unfold a_l.f f_u tmB
 by_cases c2 : a < 0
 ·have c2' : ¬ 0 ≤ a:=by omega
  simp only [if_pos c2,decide_eq_false c2',Bool.false_and,Bool.and_false];exact key true
 have c2' : 0 ≤ a:=by omega
 simp only [if_neg c2,decide_eq_true c2',Bool.true_and]
 by_cases c3 : a ≤ 1125899906842624
 ·have c3' : ¬ a > 1125899906842624:=by omega
  simp only [decide_eq_false c3',decide_eq_true c3,Bool.and_true];simpa using key false
 have c3' : a > 1125899906842624:=by omega
 simp only [decide_eq_true c3',decide_eq_false c3,Bool.and_false];exact key true
end Go.Proofs.YtgglkfilkagblaaDoor.Pure
end
section
namespace Go.Proofs.YtgglkfilkagblaaDoor.Pure
open Go.RowKit Go.Proofs.YtgglkfilkagblaaDoor.Q Go.Proofs.YtgglkfilkagblaaDoorW.PrintWords Go.Proofs.YtgglkfilkagblaaDoorW.PrintLast Go.Proofs.YtgglkfilkagblaaDoorW.PrintMore
set_option linter.unusedVariables false
set_option linter.unusedSimpArgs false
theorem x_r {a b : Nat} (ha : a < 2 ^ 32) (hb : b < 2 ^ 32) : Go.bits .and .u32 (a : Int) (b : Int) = ((a &&& b : Nat) : Int):=(bits_nat .u32 32 (by decide) wraps_u32 a b ha hb).1
theorem or_n {a b : Nat} (ha : a < 2 ^ 32) (hb : b < 2 ^ 32) : Go.bits .or .u32 (a : Int) (b : Int) = ((a ||| b : Nat) : Int):=(bits_nat .u32 32 (by decide) wraps_u32 a b ha hb).2
def nd (a b : Nat) : Nat:=(BitVec.ofNat 32 a &&& ~~~BitVec.ofNat 32 b).toNat
theorem H_F (a b : Nat) : nd a b < 2 ^ 32:=BitVec.isLt _
theorem nd_n (a b : Nat) : Go.bits .andNot .u32 (a : Int) (b : Int) = (nd a b : Int):=by
 have h : Go.bits .andNot .u32 (a : Int) (b : Int) = IntKind.u32.wrap ((nd a b : Nat) : Int):=by
  simp only [Go.bits,BitVec.ofInt_natCast,nd]
  rfl
 rw [h]
 exact wraps_u32 _ (Int.natCast_nonneg _) (by have:=H_F a b;exact_mod_cast this)
theorem y_z {a b : Nat} (ha : a < 2 ^ 32) (i : Nat) : (nd a b).testBit i = (a.testBit i && !b.testBit i):=by
 unfold nd
 rw [BitVec.testBit_toNat,BitVec.getLsbD_and,BitVec.getLsbD_not,BitVec.getLsbD_ofNat,BitVec.getLsbD_ofNat]
 by_cases h : i < 32
 ·simp [h]
 have : a.testBit i = false:=Nat.testBit_lt_two_pow (Nat.lt_of_lt_of_le ha (Nat.pow_le_pow_right (by decide) (by omega)))
 simp [h,this]
theorem n_6 {a b : Nat} : a &&& b = 0 ↔ ∀ i,a.testBit i = true → b.testBit i = false:=by
 constructor
 ·intro h i hi
  have:=congrArg (Nat.testBit · i) h
  simp [Nat.testBit_and,hi] at this
  exact this
 intro h
 apply Nat.eq_of_testBit_eq
 intro i
 rw [Nat.testBit_and,Nat.zero_testBit]
 cases ha : a.testBit i
 ·rfl
 simp [h i ha]
theorem w_6 {a i : Nat} (ha : a < 256) (hi : 8 ≤ i) : a.testBit i = false:=Nat.testBit_lt_two_pow (Nat.lt_of_lt_of_le (show a < 2 ^ 8 by omega) (Nat.pow_le_pow_right (by decide) hi))
theorem s_r {a : Nat} (h : ∀ i,8 ≤ i → a.testBit i = false) : a < 256:=by
 apply Nat.lt_of_not_le
 intro hc
 obtain ⟨i,hi,hi'⟩:=Nat.exists_ge_and_testBit_of_ge_two_pow (show 2 ^ 8 ≤ a by omega)
 rw [h i hi] at hi'
 cases hi'
def cnt (S : List Nat) (c : Nat) : Nat:=S.countP (·.testBit c)
structure Good (S : List Nat) : Prop where
 len1 : 1 ≤ S.length
 len4 : S.length ≤ 4
 each : ∀ s ∈ S,s ≠ 0 ∧ s < 256
 one : ∃ m,m ≤ 8 ∧ ∀ c,cnt S c = if c < m then 1 else 0
open Classical in
noncomputable def gd (S : List Nat) : Bool:=decide (Good S)
def hb (s : Nat) (a : Int) : Bool:=decide (0 ≤ a ∧ a < 8) && s.testBit a.toNat
theorem p_B (s : Nat) (c : Nat) (h : c < 8) : hb s (c : Int) = s.testBit c:=by unfold hb;rw [decide_eq_true (by omega)];simp
theorem s_L (s : Nat) (a : Int) (h : a < 0 ∨ 8 ≤ a) : hb s a = false:=by unfold hb;rw [decide_eq_false (by omega)];rfl
theorem eight {a : Int} (h0 : 0 ≤ a) (h8 : a < 8) : ∃ c : Nat,c < 8 ∧ a = (c : Int):=⟨a.toNat,by omega,by omega⟩
theorem x_t (c : Nat) (h : c < 8) : e_v.f (c : Int) = some ((2 ^ c : Nat) : Int):=by
 have : c = 0 ∨ c = 1 ∨ c = 2 ∨ c = 3 ∨ c = 4 ∨ c = 5 ∨ c = 6 ∨ c = 7:=by omega
 rcases this with rfl|rfl|rfl|rfl|rfl|rfl|rfl|rfl <;> decide +kernel
theorem t_j (a : Int) (h : a < 0 ∨ 8 ≤ a) : e_v.f a = some 0:=by
 unfold e_v.f
 by_cases h0 : a < 0
 ·rw [if_pos h0]
 rw [if_neg h0,if_pos (by omega)]
theorem t_i (s c : Nat) : s &&& 2 ^ c = 0 ↔ s.testBit c = false:=by
 constructor
 ·intro h
  cases hx : s.testBit c
  ·rfl
  have:=n_6.1 h c hx
  simp [Nat.testBit_two_pow] at this
 intro h
 refine n_6.2 fun i hi => ?_
 rw [Nat.testBit_two_pow]
 apply decide_eq_false
 rintro rfl
 rw [h] at hi
 cases hi
theorem y_s (c : Nat) (h : c < 8) : 2 ^ c < 2 ^ 32:=Nat.pow_lt_pow_right (by decide) (by omega)
theorem x_h (s : Nat) (hs : s < 2 ^ 32) (a : Int) : b_Q.f (s : Int) a = some (hb s a):=by
 unfold b_Q.f
 by_cases h : 0 ≤ a ∧ a < 8
 rotate_left
 ·rw [t_j a (by omega),s_L s a (by omega)]
  simp only [Option.bind_some]
  have:=x_r (a:=s) (b:=0) hs (by decide)
  simp at this
  rw [this]
  rfl
 obtain ⟨c,hc,rfl⟩:=eight h.1 h.2
 rw [x_t c hc]
 simp only [Option.bind_some]
 rw [x_r hs (y_s c hc),p_B s c hc]
 have:=t_i s c
 cases hx : s.testBit c
 ·rw [this.2 hx];rfl
 have h2 : s &&& 2 ^ c ≠ 0:=fun h => by rw [this.1 h] at hx;cases hx
 have h3 : (((s &&& 2 ^ c : Nat) : Int) != 0) = true:=by simp;omega
 rw [h3]
theorem s_R (s : Nat) (a : Int) : a_2.f (s : Int) a = some (hb s a):=by
 unfold a_2.f c_u.f
 by_cases h : 0 ≤ a ∧ a < 8
 rotate_left
 ·rw [s_L s a (by omega)]
  by_cases h0 : a ≥ 0
  ·rw [if_pos h0]
   simp only [Option.bind_some]
   rw [if_neg (by simp;omega)]
  rw [if_neg h0]
  rfl
 obtain ⟨c,hc,rfl⟩:=eight h.1 h.2
 rw [if_pos h.1]
 simp only [Option.bind_some]
 rw [if_pos (decide_eq_true h.2),if_pos h.1,p_B s c hc]
 have e : shr .u32 (s : Int) (c : Int) = ((s / 2 ^ c : Nat) : Int):=by
  unfold shr
  rw [show min ((c : Int).toNat) (IntKind.bits .u32) = c by simp [IntKind.bits];omega]
  simp
 rw [e,Nat.testBit_eq_decide_div_mod_eq]
 congr 1
 have e2 : Int.tmod ((s / 2 ^ c : Nat) : Int) 2 = ((s / 2 ^ c % 2 : Nat) : Int):=by
  rw [Int.tmod_eq_emod_of_nonneg (Int.natCast_nonneg _)]
  simp
 rw [e2]
 by_cases h1 : s / 2 ^ c % 2 = 1
 ·rw [h1];rfl
 have : s / 2 ^ c % 2 = 0:=by omega
 rw [this];rfl
end Go.Proofs.YtgglkfilkagblaaDoor.Pure
end
section
namespace Go.Proofs.YtgglkfilkagblaaDoor.Pure
open Go.RowKit Go.Proofs.YtgglkfilkagblaaDoor.Q Go.Proofs.YtgglkfilkagblaaDoorW.PrintWords Go.Proofs.YtgglkfilkagblaaDoorW.PrintLast Go.Proofs.YtgglkfilkagblaaDoorW.PrintMore
set_option linter.unusedVariables false
set_option linter.unusedSimpArgs false
theorem rdm {l pre suf : List S33} {x : S33} (h : l = pre ++ x :: suf) : a_a l (pre.length : Int) = x:=by subst h;simp [a_a]
theorem o_1 {l pre suf : List S33} {x : S33} (h : l = pre ++ x :: suf) : pre.length < l.length:=by subst h;simp
theorem i_p {l pre suf : List S33} {x : S33} (h : l = pre ++ x :: suf) : l = (pre ++ [x]) ++ suf:=by simp [h]
theorem h_R {pre : List S33} {x : S33} (h : pre.length < 1000000) : wrap64 ((pre.length : Int) + 1) = ((pre ++ [x]).length : Int):=by rw [e_1 pre.length (by omega)];simp
theorem j_M {l pre : List S33} (h : l = pre ++ []) : pre.length = l.length:=by subst h;simp
structure Fine (x : S33) : Prop where
 g0 : 0 ≤ x.f2
 g8 : x.f2 ≤ 8
 c0 : -1 ≤ x.f4
 c7 : x.f4 ≤ 7
 m0 : 0 ≤ x.f7
 m8 : x.f7 < 256
theorem o_H {l : List S33} : ∀ n i,i_A l n i = true → ∀ j,i ≤ j → j < i + n → l_A (a_a l (j : Int)) = true
 | 0,i,_,j,h1,h2 => by omega
 | n + 1,i,h,j,h1,h2 => by
  unfold i_A at h
  simp only [Bool.and_eq_true] at h
  by_cases e : j = i
  ·subst e
   have:=h.1
   unfold rOK at this
   simp only [Bool.and_eq_true] at this
   exact this.1.1.1
  ·exact o_H n (i + 1) h.2 j (by omega) (by omega)
theorem t_l {a : Int} {l : List S33} (h : f_u a l = true) (hm : ∀ x ∈ l,May x) : ∀ x ∈ l,Fine x:=by
 intro x hx
 obtain ⟨j,hj,rfl⟩:=List.getElem_of_mem hx
 have hmx:=hm _ hx
 unfold f_u at h
 simp only [Bool.and_eq_true] at h
 have:=o_H _ _ h.1 j (by omega) (by omega)
 rw [show a_a l (j : Int) = l[j] by unfold a_a;simp [hj]] at this
 unfold l_A win at this
 simp only [Bool.and_eq_true,decide_eq_true_eq] at this
 obtain ⟨⟨⟨⟨⟨⟨⟨⟨h0,h1⟩,h2⟩,h3⟩,h4⟩,h7⟩,h8⟩,h9⟩,h10⟩:=this
 rw [s_N hmx.1 hmx.2,decide_eq_true_eq] at h7
 exact ⟨h2.1,h2.2,h4.1,h4.2,hmx.1,h7⟩
def adm : Nat → List S33 → Bool
 | _,[] => true
 | t,x :: r => if x.f4 = -1 then adm t r else x.f5 && !x.f6 && x.f7.toNat.testBit x.f4.toNat && !t.testBit x.f4.toNat && adm (t ||| 2 ^ x.f4.toNat) r
theorem shl1 (c : Nat) (h : c < 8) : shl .u32 1 (c : Int) = ((2 ^ c : Nat) : Int):=by
 have : c = 0 ∨ c = 1 ∨ c = 2 ∨ c = 3 ∨ c = 4 ∨ c = 5 ∨ c = 6 ∨ c = 7:=by omega
 rcases this with rfl|rfl|rfl|rfl|rfl|rfl|rfl|rfl <;> rfl
theorem s_H (l : List S33) (hl : l.length ≤ 1000) (hf : ∀ x ∈ l,Fine x) : ∀ (suf pre : List S33) (t : Nat),l = pre ++ suf → t < 256 →
 Ev (fun k => a_I.l0 k (t : Int) l (l.length : Int) (pre.length : Int)) (adm t suf)
 | [],pre,t,h,ht => by
  have:=j_M h
  refine Ev.step (f:=fun _ => some true) (fun k => ?_) (Ev.now _)
  rw [a_I.l0,if_neg (by omega)]
 | x :: suf,pre,t,h,ht => by
  have hlt:=o_1 h
  have hx:=hf x (by subst h;simp)
  obtain ⟨h1,h2,h3,h4,h5,h6⟩:=hx
  have ih:=fun t ht => s_H l hl hf suf (pre ++ [x]) t (i_p h) ht
  unfold adm
  by_cases c : x.f4 = -1
  ·rw [if_pos c]
   refine Ev.step (f:=fun k => a_I.l0 k (t : Int) l (l.length : Int) ((pre ++ [x]).length : Int)) (fun k => ?_) (ih t ht)
   rw [a_I.l0,if_pos (by omega),if_pos (by omega),if_pos (by omega),rdm h,if_pos c,h_R (x:=x) (by omega)]
  ·rw [if_neg c]
   obtain ⟨q,hq⟩ : ∃ q : Nat,x.f4 = (q : Int):=⟨x.f4.toNat,by omega⟩
   obtain ⟨m,hm⟩ : ∃ m : Nat,x.f7 = (m : Int):=⟨x.f7.toNat,by omega⟩
   have hq8 : q < 8:=by omega
   have hm8 : m < 2 ^ 32:=by omega
   have hor : Go.bits .or .u32 (t : Int) (shl .u32 1 (q : Int)) = ((t ||| 2 ^ q : Nat) : Int):=by
    rw [shl1 q hq8]
    exact or_n (by omega) (Nat.pow_lt_pow_right (by decide) (by omega))
   have hpow : t ||| 2 ^ q < 256:=Nat.or_lt_two_pow (n:=8) ht (Nat.pow_lt_pow_right (by decide) hq8)
   refine Ev.step (f:=fun k => if (x.f5 = true) then (if x.f6 = true then (some false) else ((b_Q.f x.f7 x.f4).bind fun t126 => (if t126 = true then ((b_Q.f (t : Int) x.f4).bind fun t127 => (if t127 = true then (some false) else (if 0 ≤ x.f4 then (a_I.l0 k (Go.bits .or .u32 (t : Int) (shl .u32 1 x.f4)) l (l.length : Int) ((pre ++ [x]).length : Int)) else (none)))) else (some false)))) else (some false)) (fun k => ?_) ?_
   ·rw [a_I.l0,if_pos (by omega),if_pos (by omega),if_pos (by omega),rdm h,if_neg c,h_R (x:=x) (by omega)]
   ·simp only [hq,hm,Int.toNat_natCast]
    simp only [x_h m hm8,x_h t (show t < 2 ^ 32 by omega),Option.bind_some,p_B _ q hq8,hor]
    cases x.f5
    ·exact Ev.now _
    cases x.f6
    ·cases m.testBit q
     ·exact Ev.now _
     cases ht2 : t.testBit q
     ·simpa using ih _ hpow
     ·exact Ev.now _
    ·exact Ev.now _
def radm : List S33 → List S33 → Bool
 | _,[] => true
 | pre,x :: r => if x.f4 < 0 then radm (pre ++ [x]) r else x.f5 && !x.f6 && x.f7.toNat.testBit x.f4.toNat && !(pre.any fun y => y.f4 == x.f4) && radm (pre ++ [x]) r
theorem r_y (l : List S33) (hl : l.length ≤ 1000) (a : Int) (x : S33) (i : Nat) (hi : i < l.length) (R : Bool) (hn : Ev (fun k => a_q.l0 k ((i + 1 : Nat) : Int) a l) R) :
 ∀ d j,j + d = i → Ev (fun k => a_q.l1 k (i : Int) (j : Int) a l x.f0 x.f1 x.f2 x.f3 x.f4 x.f5 x.f6 x.f7 x.f8 x.f9 x.f10) (!(((l.take i).drop j).any fun y => y.f4 == x.f4) && R)
 | 0,j,h => by
  have : (l.take i).drop j = []:=by rw [List.drop_eq_nil_iff,List.length_take];omega
  rw [this]
  simp only [List.any_nil,Bool.not_false,Bool.true_and]
  refine Ev.step (f:=fun k => a_q.l0 k ((i + 1 : Nat) : Int) a l) (fun k => ?_) hn
  rw [a_q.l1,if_neg (by omega),e_1 i (by omega)]
 | d + 1,j,h => by
  have ih:=r_y l hl a x i hi R hn d (j + 1) (by omega)
  have hd : (l.take i).drop j = l[j] :: (l.take i).drop (j + 1):=by rw [List.drop_eq_getElem_cons (by rw [List.length_take];omega)];simp
  have hr : a_a l (j : Int) = l[j]:=by unfold a_a;simp [show j < l.length by omega]
  rw [hd,List.any_cons]
  refine Ev.step (f:=fun k => if (l[j]).f4 = x.f4 then some false else a_q.l1 k (i : Int) ((j + 1 : Nat) : Int) a l x.f0 x.f1 x.f2 x.f3 x.f4 x.f5 x.f6 x.f7 x.f8 x.f9 x.f10) (fun k => ?_) ?_
  ·rw [a_q.l1,if_pos (by omega),if_pos (by omega),if_pos (by omega),hr,e_1 j (by omega)]
  ·by_cases e : (l[j]).f4 = x.f4
   ·simp only [if_pos e,show ((l[j]).f4 == x.f4) = true by simp [e],Bool.true_or,Bool.not_true,Bool.false_and]
    exact Ev.now _
   ·simp only [if_neg e,show ((l[j]).f4 == x.f4) = false by simp [e],Bool.false_or]
    exact ih
theorem r_x (l : List S33) (hl : l.length ≤ 1000) (hf : ∀ x ∈ l,Fine x) (a : Int) : ∀ (suf pre : List S33),l = pre ++ suf →
 Ev (fun k => a_q.l0 k (pre.length : Int) a l) (radm pre suf)
 | [],pre,h => by
  have:=j_M h
  refine Ev.step (f:=fun _ => some true) (fun k => ?_) (Ev.now _)
  rw [a_q.l0,if_neg (by omega)]
 | x :: suf,pre,h => by
  have hlt:=o_1 h
  have hx:=hf x (by subst h;simp)
  obtain ⟨h1,h2,h3,h4,h5,h6⟩:=hx
  have ih:=r_x l hl hf a suf (pre ++ [x]) (i_p h)
  have hps : ((pre ++ [x]).length : Int) = ((pre.length + 1 : Nat) : Int):=by simp
  have htk : l.take pre.length = pre:=by subst h;simp
  unfold radm
  by_cases c : x.f4 < 0
  ·rw [if_pos c]
   refine Ev.step (f:=fun k => a_q.l0 k ((pre ++ [x]).length : Int) a l) (fun k => ?_) ih
   rw [a_q.l0,if_pos (by omega),if_pos (by omega),rdm h,if_pos c,h_R (x:=x) (by omega)]
  ·rw [if_neg c]
   obtain ⟨q,hq⟩ : ∃ q : Nat,x.f4 = (q : Int):=⟨x.f4.toNat,by omega⟩
   obtain ⟨m,hm⟩ : ∃ m : Nat,x.f7 = (m : Int):=⟨x.f7.toNat,by omega⟩
   have hq8 : q < 8:=by omega
   have hl1:=r_y l hl a x pre.length hlt (radm (pre ++ [x]) suf) (by rw [← hps];exact ih) pre.length 0 (by omega)
   rw [List.drop_zero,htk] at hl1
   have hj : ∀ b : Bool,Ev (fun k => a_q.j1 k (pre.length : Int) b a l x.f0 x.f1 x.f2 x.f3 x.f4 x.f5 x.f6 x.f7 x.f8 x.f9 x.f10) (!b && (!(pre.any fun y => y.f4 == x.f4) && radm (pre ++ [x]) suf)):=fun b => by
    refine Ev.step (f:=fun k => if b = true then (some false) else (a_q.l1 k (pre.length : Int) ((0 : Nat) : Int) a l x.f0 x.f1 x.f2 x.f3 x.f4 x.f5 x.f6 x.f7 x.f8 x.f9 x.f10)) (fun k => by rw [a_q.j1];rfl) ?_
    cases b
    ·simpa using hl1
    ·exact Ev.now _
   refine Ev.step (f:=fun k => if (x.f5 = true) then (if x.f6 = true then (a_q.j1 k (pre.length : Int) true a l x.f0 x.f1 x.f2 x.f3 x.f4 x.f5 x.f6 x.f7 x.f8 x.f9 x.f10) else ((a_2.f x.f7 x.f4).bind fun t221 => (a_q.j1 k (pre.length : Int) (!t221) a l x.f0 x.f1 x.f2 x.f3 x.f4 x.f5 x.f6 x.f7 x.f8 x.f9 x.f10))) else (a_q.j1 k (pre.length : Int) true a l x.f0 x.f1 x.f2 x.f3 x.f4 x.f5 x.f6 x.f7 x.f8 x.f9 x.f10)) (fun k => ?_) ?_
   ·rw [a_q.l0,if_pos (by omega),if_pos (by omega),rdm h,if_neg c]
   ·have hhas : a_2.f x.f7 x.f4 = some (m.testBit q):=by rw [hm,hq,s_R m (q : Int),p_B _ q hq8]
    have hbit : x.f7.toNat.testBit x.f4.toNat = m.testBit q:=by rw [hm,hq];simp
    simp only [hhas,Option.bind_some,hbit]
    cases h5' : x.f5
    ·have:=hj true
     simpa [h5'] using this
    cases h6' : x.f6
    ·have:=hj (!m.testBit q)
     simpa [h5',h6',Bool.and_assoc] using this
    ·have:=hj true
     simpa [h5',h6'] using this
theorem j_Y : ∀ (suf pre : List S33) (t : Nat),(∀ x ∈ pre ++ suf,Fine x) → (∀ c : Nat,c < 8 → (t.testBit c = true ↔ ∃ y ∈ pre,y.f4 = (c : Int))) → adm t suf = radm pre suf
 | [],pre,t,hf,ht => rfl
 | x :: suf,pre,t,hf,ht => by
  have hx:=hf x (by simp)
  obtain ⟨h1,h2,h3,h4,h5,h6⟩:=hx
  unfold adm radm
  by_cases c : x.f4 = -1
  ·rw [if_pos c,if_pos (by omega)]
   refine j_Y suf (pre ++ [x]) t (by simpa using hf) (fun q hq => ?_)
   rw [ht q hq]
   constructor
   ·rintro ⟨y,hy,e⟩;exact ⟨y,by simp [hy],e⟩
   ·rintro ⟨y,hy,e⟩
    rcases List.mem_append.1 hy with hy|hy
    ·exact ⟨y,hy,e⟩
    ·rw [List.mem_singleton] at hy;subst hy;omega
  ·rw [if_neg c,if_neg (by omega)]
   obtain ⟨q,hq⟩ : ∃ q : Nat,x.f4 = (q : Int):=⟨x.f4.toNat,by omega⟩
   have hq8 : q < 8:=by omega
   have ih:=j_Y suf (pre ++ [x]) (t ||| 2 ^ q) (by simpa using hf) (fun r hr => by
    rw [Nat.testBit_or,Nat.testBit_two_pow,Bool.or_eq_true,ht r hr,decide_eq_true_eq]
    constructor
    ·rintro (⟨y,hy,e⟩|e)
     ·exact ⟨y,by simp [hy],e⟩
     ·exact ⟨x,by simp,by omega⟩
    ·rintro ⟨y,hy,e⟩
     rcases List.mem_append.1 hy with hy|hy
     ·exact .inl ⟨y,hy,e⟩
     ·rw [List.mem_singleton] at hy;subst hy;exact .inr (by omega))
   have hany : (pre.any fun y => y.f4 == x.f4) = t.testBit q:=by
    rw [Bool.eq_iff_iff,ht q hq8,List.any_eq_true]
    constructor
    ·rintro ⟨y,hy,e⟩;exact ⟨y,hy,by rw [beq_iff_eq] at e;omega⟩
    ·rintro ⟨y,hy,e⟩;exact ⟨y,hy,by rw [beq_iff_eq];omega⟩
   rw [hany,hq,Int.toNat_natCast,ih]
theorem r_I (a : Int) (l : List S33) (hl : l.length ≤ 1000) (hf : f_u a l = true → ∀ x ∈ l,Fine x) : Ev (fun k => a_I.f k a l) (f_u a l && adm 0 l):=by
 unfold a_I.f
 refine Ev.bind (n_Y a l (by omega)) ?_
 cases h : f_u a l
 ·exact Ev.now _
 simpa using s_H l hl (hf h) l [] 0 rfl (by decide)
theorem r_v (a : Int) (l : List S33) (hl : l.length ≤ 1000) (hf : ∀ x ∈ l,Fine x) : Ev (fun k => a_q.f k a l) (adm 0 l):=by
 unfold a_q.f
 rw [j_Y l [] 0 (by simpa using hf) (fun c hc => by simp)]
 exact r_x l hl hf a l [] rfl
def wok (l : List S33) (g : Int) : Bool := !(l.any (fun s => areB s g) && l.any (fun s => d_h s g && !areB s g))
theorem p_u (l : List S33) (g : Int) : (l.countP (fun s => areB s g) < l.countP (fun s => d_h s g)) ↔ l.any (fun s => d_h s g && !areB s g) = true:=by
 have h1 : l.countP (fun s => d_h s g) = l.countP (fun s => areB s g) + l.countP (fun s => d_h s g && !areB s g):=by
  induction l with
  | nil => rfl
  | cons x l ih =>
   simp only [List.countP_cons,ih]
   unfold areB
   cases d_h x g <;> cases decide (-1 < x.f4) <;> simp <;> omega
 rw [h1,List.any_eq_true]
 constructor
 ·intro h
  have : 0 < l.countP (fun s => d_h s g && !areB s g):=by omega
  rw [List.countP_pos_iff] at this
  exact this
 intro h
 have:=List.countP_pos_iff.2 h
 omega
theorem o_O (l : List S33) (hl : l.length ≤ 1000) (a : Int) : ∀ (suf pre : List S33),l = pre ++ suf →
 Ev (fun k => a_V.l0 k l (l.length : Int) (pre.length : Int) a l) (suf.all fun x => decide (x.f2 ≤ 0) || wok l x.f2)
 | [],pre,h => by
  have:=j_M h
  refine Ev.step (f:=fun _ => some true) (fun k => ?_) (Ev.now _)
  rw [a_V.l0,if_neg (by omega)]
 | x :: suf,pre,h => by
  have hlt:=o_1 h
  have ih:=o_O l hl a suf (pre ++ [x]) (i_p h)
  have h1 : ∀ b0 b1 b3 b4 b5 b6 b7 b8 b9 b10,b_8.f l b0 b1 x.f2 b3 b4 b5 b6 b7 b8 b9 b10 = some ((l.countP (fun s => areB s x.f2) : Nat) : Int):=fun _ _ _ _ _ _ _ _ _ _ => by unfold b_8.f;rw [if_pos (by omega)]
  have h2 : ∀ b0 b1 b3 b4 b5 b6 b7 b8 b9 b10,b_5.f l b0 b1 x.f2 b3 b4 b5 b6 b7 b8 b9 b10 = some ((l.countP (fun s => d_h s x.f2) : Nat) : Int):=fun _ _ _ _ _ _ _ _ _ _ => by unfold b_5.f;rw [if_pos (by omega)]
  rw [List.all_cons]
  refine Ev.step (f:=fun k => if x.f2 > 0 then (if ((l.countP (fun s => areB s x.f2) : Nat) : Int) > 0 then (if ((l.countP (fun s => areB s x.f2) : Nat) : Int) < ((l.countP (fun s => d_h s x.f2) : Nat) : Int) then (some false) else (a_V.l0 k l (l.length : Int) ((pre ++ [x]).length : Int) a l)) else (a_V.l0 k l (l.length : Int) ((pre ++ [x]).length : Int) a l)) else (a_V.l0 k l (l.length : Int) ((pre ++ [x]).length : Int) a l)) (fun k => ?_) ?_
  ·rw [a_V.l0,if_pos (by omega),if_pos (by omega),if_pos (by omega),rdm h,h1,Option.bind_some,h2,Option.bind_some,h_R (x:=x) (by omega)]
  by_cases g0 : x.f2 > 0
  ·simp only [if_pos g0,decide_eq_false (show ¬ x.f2 ≤ 0 by omega),Bool.false_or]
   unfold wok
   have hc:=p_u l x.f2
   have hp : (0 < l.countP (fun s => areB s x.f2)) ↔ l.any (fun s => areB s x.f2) = true:=by rw [List.countP_pos_iff,List.any_eq_true]
   cases e1 : l.any (fun s => areB s x.f2)
   ·rw [e1] at hp
    have : ¬ ((l.countP (fun s => areB s x.f2) : Nat) : Int) > 0:=by intro h;have:=hp.1 (by omega);cases this
    simp only [if_neg this,Bool.false_and,Bool.not_false,Bool.true_and]
    exact ih
   ·rw [e1] at hp
    have : ((l.countP (fun s => areB s x.f2) : Nat) : Int) > 0:=by have:=hp.2 rfl;omega
    simp only [if_pos this,Bool.true_and]
    cases e2 : l.any (fun s => d_h s x.f2 && !areB s x.f2)
    ·rw [e2] at hc
     have : ¬ ((l.countP (fun s => areB s x.f2) : Nat) : Int) < ((l.countP (fun s => d_h s x.f2) : Nat) : Int):=by intro h;have:=hc.1 (by omega);cases this
     simp only [if_neg this,Bool.not_false,Bool.true_and]
     exact ih
    ·rw [e2] at hc
     have : ((l.countP (fun s => areB s x.f2) : Nat) : Int) < ((l.countP (fun s => d_h s x.f2) : Nat) : Int):=by have:=hc.2 rfl;omega
     simp only [if_pos this]
     exact Ev.now _
  ·simp only [if_neg g0,decide_eq_true (show x.f2 ≤ 0 by omega),Bool.true_or,Bool.true_and]
   exact ih
theorem t_g (a : Int) (l : List S33) (hl : l.length ≤ 1000) : Ev (fun k => a_V.f k a l) (f_u a l && l.all fun x => decide (x.f2 ≤ 0) || wok l x.f2):=by
 unfold a_V.f
 refine Ev.bind (n_Y a l (by omega)) ?_
 cases h : f_u a l
 ·exact Ev.now _
 simpa using o_O l hl a l [] rfl
def n_0 (l : List S33) : Nat → Int → Bool
 | 0,_ => true
 | n + 1,g => wok l g && n_0 l n (g + 1)
theorem l_6 (l : List S33) (hl : l.length ≤ 1000) (hf : ∀ x ∈ l,Fine x) (a : Int) (g : Int) (hg : 0 ≤ g) (hg8 : g ≤ 100) (R : Bool) (hn : Ev (fun k => a_s.l0 k (g + 1) a l) R) : ∀ (suf pre : List S33) (so al : Bool),l = pre ++ suf →
 Ev (fun k => a_s.l1 k g so al (pre.length : Int) a l) (!((so || suf.any (fun s => areB s g)) && !(al && !suf.any (fun s => d_h s g && !areB s g))) && R)
 | [],pre,so,al,h => by
  have:=j_M h
  refine Ev.step (f:=fun k => if so = true then (if al = true then (a_s.l0 k (g + 1) a l) else (some false)) else (a_s.l0 k (g + 1) a l)) (fun k => ?_) ?_
  ·rw [a_s.l1,if_neg (by omega),y_B (g + 1) (by omega) (by omega)]
  ·cases so <;> cases al <;> first|(simpa using hn)|exact Ev.now _
 | x :: suf,pre,so,al,h => by
  have hlt:=o_1 h
  have hx:=hf x (by subst h;simp)
  obtain ⟨h1,h2,h3,h4,h5,h6⟩:=hx
  have ih:=fun so al => l_6 l hl hf a g hg hg8 R hn suf (pre ++ [x]) so al (i_p h)
  have hs : wrap64 ((pre.length : Int) + 1) = ((pre ++ [x]).length : Int):=h_R (by omega)
  have hj : ∀ b : Bool,Ev (fun k => a_s.j2 k g so al (pre.length : Int) b a l x.f0 x.f1 x.f2 x.f3 x.f4 x.f5 x.f6 x.f7 x.f8 x.f9 x.f10) (!(((so || (!b && decide (-1 < x.f4))) || suf.any (fun s => areB s g)) && !((al && !(!b && !decide (-1 < x.f4))) && !suf.any (fun s => d_h s g && !areB s g))) && R):=fun b => by
   refine Ev.step (f:=fun k => if b = true then (a_s.l1 k g so al ((pre ++ [x]).length : Int) a l) else (if x.f4 ≥ 0 then (a_s.l1 k g true al ((pre ++ [x]).length : Int) a l) else (a_s.l1 k g so false ((pre ++ [x]).length : Int) a l))) (fun k => by rw [a_s.j2,hs]) ?_
   cases b
   ·by_cases e : x.f4 ≥ 0
    ·simp only [if_pos e,decide_eq_true (show -1 < x.f4 by omega)]
     simpa using ih true al
    ·simp only [if_neg e,decide_eq_false (show ¬ -1 < x.f4 by omega)]
     simpa using ih so false
   ·simpa using ih so al
  have key : Ev (fun k => a_s.j2 k g so al (pre.length : Int) (!d_h x g) a l x.f0 x.f1 x.f2 x.f3 x.f4 x.f5 x.f6 x.f7 x.f8 x.f9 x.f10) (!((so || (x :: suf).any (fun s => areB s g)) && !(al && !(x :: suf).any (fun s => d_h s g && !areB s g))) && R):=by
   have:=hj (!d_h x g)
   rw [List.any_cons,List.any_cons]
   have e1 : areB x g = (d_h x g && decide (-1 < x.f4)):=rfl
   have e2 : (d_h x g && !areB x g) = (d_h x g && !decide (-1 < x.f4)):=by rw [e1];cases d_h x g <;> simp
   rw [e2,e1]
   simpa [Bool.or_assoc,Bool.and_assoc] using this
  refine Ev.step (f:=fun k => a_s.j2 k g so al (pre.length : Int) (!d_h x g) a l x.f0 x.f1 x.f2 x.f3 x.f4 x.f5 x.f6 x.f7 x.f8 x.f9 x.f10) (fun k => ?_) key
  rw [a_s.l1,if_pos (by omega),if_pos (by omega),rdm h]
  unfold d_h
  by_cases e : x.f2 = g
  ·rw [if_pos e,show (x.f2 == g) = true by simp [e]]
   cases x.f5 <;> cases x.f6 <;> simp
  ·rw [if_neg e,show (x.f2 == g) = false by simp [e]]
   simp
theorem l_5 (l : List S33) (hl : l.length ≤ 1000) (hf : ∀ x ∈ l,Fine x) (a : Int) : ∀ (n : Nat) (g : Int),0 ≤ g → g + (n : Int) = 9 → Ev (fun k => a_s.l0 k g a l) (n_0 l n g)
 | 0,g,h0,h => by
  refine Ev.step (f:=fun _ => some true) (fun k => ?_) (Ev.now _)
  rw [a_s.l0,if_neg (by omega)]
 | n + 1,g,h0,h => by
  have ih:=l_5 l hl hf a n (g + 1) (by omega) (by omega)
  have h1:=l_6 l hl hf a g h0 (by omega) _ ih l [] false true rfl
  unfold n_0 wok
  refine Ev.step (f:=fun k => a_s.l1 k g false true 0 a l) (fun k => ?_) ?_
  ·rw [a_s.l0,if_pos (by omega)]
  ·simpa using h1
theorem m_a (l : List S33) : ∀ (n : Nat) (g : Int),n_0 l n g = true ↔ ∀ k : Int,g ≤ k → k < g + (n : Int) → wok l k = true
 | 0,g => by simp [n_0];intro k h1 h2;omega
 | n + 1,g => by
  rw [n_0,Bool.and_eq_true,m_a l n (g + 1)]
  constructor
  ·rintro ⟨h1,h2⟩ k hk1 hk2
   by_cases e : k = g
   ·subst e;exact h1
   ·exact h2 k (by omega) (by omega)
  ·intro h
   exact ⟨h g (by omega) (by omega),fun k h1 h2 => h k (by omega) (by omega)⟩
theorem o_9 (l : List S33) (hf : ∀ x ∈ l,Fine x) : (l.all fun x => decide (x.f2 ≤ 0) || wok l x.f2) = n_0 l 8 1:=by
 rw [Bool.eq_iff_iff,m_a,List.all_eq_true]
 constructor
 ·intro h k h1 h2
  unfold wok
  cases e : l.any (fun s => areB s k)
  ·rfl
  obtain ⟨x,hx,ha⟩:=List.any_eq_true.1 e
  have hk : x.f2 = k:=by unfold areB d_h at ha;simp at ha;exact ha.1.1.1
  have:=h x hx
  rw [hk,decide_eq_false (by omega),Bool.false_or] at this
  unfold wok at this
  rw [e] at this
  exact this
 intro h x hx
 obtain ⟨h1,h2,_,_,_,_⟩:=hf x hx
 by_cases e : x.f2 ≤ 0
 ·simp [e]
 rw [h x.f2 (by omega) (by omega)];simp
theorem s_v (a : Int) (l : List S33) (hl : l.length ≤ 1000) (hf : ∀ x ∈ l,Fine x) : Ev (fun k => a_s.f k a l) (l.all fun x => decide (x.f2 ≤ 0) || wok l x.f2):=by
 unfold a_s.f
 rw [o_9 l hf]
 exact l_5 l hl hf a 8 1 (by omega) (by omega)
def d_g (x : S33) : Bool:=x.f5 && !x.f6 && (x.f2 == 0) && (x.f4 == -1)
theorem w_8 (x : S33) : c_g.f x.f0 x.f1 x.f2 x.f3 x.f4 x.f5 x.f6 x.f7 x.f8 x.f9 x.f10 = some (d_g x):=by
 unfold c_g.f d_g
 cases x.f5 <;> cases x.f6 <;> simp <;> (by_cases h : x.f2 = 0 <;> simp [h])
theorem s_x (x : S33) (hx : Fine x) : b_O.f x.f0 x.f1 x.f2 x.f3 x.f4 x.f5 x.f6 x.f7 x.f8 x.f9 x.f10 = some (d_g x):=by
 have h3:=hx.c0
 have e : decide (x.f4 < 0) = (x.f4 == -1):=by
  by_cases h : x.f4 = -1
  ·simp [h]
  rw [decide_eq_false (by omega)];simp [h]
 unfold b_O.f d_g
 cases x.f5 <;> cases x.f6 <;> simp [e] <;> (by_cases h : x.f2 = 0 <;> simp [h,e])
def l_8 : Nat → List S33 → Nat
 | w,[] => w
 | w,x :: r => l_8 (if d_g x = true then w ||| x.f7.toNat else w) r
def takeN : Nat → List S33 → Nat
 | t,[] => t
 | t,x :: r => takeN (if x.f4 > -1 then t ||| 2 ^ x.f4.toNat else t) r
theorem l_9 (c : Nat) : ∀ (l : List S33) (w : Nat),(l_8 w l).testBit c = (w.testBit c || l.any fun x => d_g x && x.f7.toNat.testBit c)
 | [],w => by simp [l_8]
 | x :: l,w => by
  rw [l_8,l_9 c l,List.any_cons]
  cases d_g x <;> simp [Nat.testBit_or,Bool.or_assoc]
theorem l_7 (c : Nat) : ∀ (l : List S33) (t : Nat),(takeN t l).testBit c = (t.testBit c || l.any fun x => decide (x.f4 = (c : Int)))
 | [],t => by simp [takeN]
 | x :: l,t => by
  rw [takeN,l_7 c l,List.any_cons]
  by_cases h : x.f4 > -1
  ·obtain ⟨q,hq⟩ : ∃ q : Nat,x.f4 = (q : Int):=⟨x.f4.toNat,by omega⟩
   have e : decide (q = c) = decide ((q : Int) = (c : Int)):=by rw [decide_eq_decide];omega
   rw [if_pos h,hq,Int.toNat_natCast,Nat.testBit_or,Nat.testBit_two_pow,Bool.or_assoc,e]
  ·simp only [if_neg h,decide_eq_false (show ¬ x.f4 = (c : Int) by omega),Bool.false_or]
theorem r_n (l : List S33) (hl : l.length ≤ 1000) (hf : ∀ x ∈ l,Fine x) : ∀ (suf pre : List S33) (w t : Nat),l = pre ++ suf → w < 256 → t < 256 →
 Ev (fun k => a_T.l0 k (w : Int) (t : Int) l (l.length : Int) (pre.length : Int)) ((g_z (nd (l_8 w suf) (takeN t suf))).map fun x : Nat => (x : Int))
 | [],pre,w,t,h,hw,ht => by
  have:=j_M h
  refine Ev.step (f:=fun _ => some ((g_z (nd w t)).map fun x : Nat => (x : Int))) (fun k => ?_) (Ev.now _)
  have hn : nd w t < 256:=s_r fun i hi => by rw [y_z (by omega),w_6 hw hi];rfl
  rw [a_T.l0,if_neg (by omega),nd_n]
  unfold e_N.f
  rw [if_pos (by omega),Int.toNat_natCast,show nd w t &&& 255 = nd w t by rw [show (255 : Nat) = 2 ^ 8 - 1 from rfl,Nat.and_two_pow_sub_one_eq_mod];omega]
  rfl
 | x :: suf,pre,w,t,h,hw,ht => by
  have hlt:=o_1 h
  have hx:=hf x (by subst h;simp)
  have hwt:=w_8 x
  obtain ⟨h1,h2,h3,h4,h5,h6⟩:=hx
  have hs : wrap64 ((pre.length : Int) + 1) = ((pre ++ [x]).length : Int):=h_R (by omega)
  have ih:=fun w t hw ht => r_n l hl hf suf (pre ++ [x]) w t (i_p h) hw ht
  obtain ⟨m,hm⟩ : ∃ m : Nat,x.f7 = (m : Int):=⟨x.f7.toNat,by omega⟩
  have hor : Go.bits .or .u32 (w : Int) x.f7 = ((w ||| m : Nat) : Int):=by rw [hm];exact or_n (by omega) (by omega)
  have hw' : w ||| m < 256:=Nat.or_lt_two_pow (n:=8) hw (by omega)
  have hto : x.f4 > -1 → Go.bits .or .u32 (t : Int) (shl .u32 1 x.f4) = ((t ||| 2 ^ x.f4.toNat : Nat) : Int):=fun hc => by
   obtain ⟨q,hq⟩ : ∃ q : Nat,x.f4 = (q : Int):=⟨x.f4.toNat,by omega⟩
   rw [hq,shl1 q (by omega),Int.toNat_natCast]
   exact or_n (by omega) (Nat.pow_lt_pow_right (by decide) (by omega))
  have ht' : x.f4 > -1 → t ||| 2 ^ x.f4.toNat < 256:=fun hc => Nat.or_lt_two_pow (n:=8) ht (Nat.pow_lt_pow_right (by decide) (by omega))
  have hm2 : x.f7.toNat = m:=by omega
  rw [l_8,takeN]
  refine Ev.step (f:=fun k => if d_g x = true then (if x.f4 > (-1) then (a_T.l0 k ((w ||| m : Nat) : Int) ((t ||| 2 ^ x.f4.toNat : Nat) : Int) l (l.length : Int) ((pre ++ [x]).length : Int)) else (a_T.l0 k ((w ||| m : Nat) : Int) (t : Int) l (l.length : Int) ((pre ++ [x]).length : Int))) else (if x.f4 > (-1) then (a_T.l0 k (w : Int) ((t ||| 2 ^ x.f4.toNat : Nat) : Int) l (l.length : Int) ((pre ++ [x]).length : Int)) else (a_T.l0 k (w : Int) (t : Int) l (l.length : Int) ((pre ++ [x]).length : Int)))) (fun k => ?_) ?_
  ·rw [a_T.l0,if_pos (by omega),if_pos (by omega),if_pos (by omega),rdm h,hwt,Option.bind_some,hs,hor]
   by_cases hc : x.f4 > -1
   ·simp only [if_pos hc,hto hc,if_pos (show 0 ≤ x.f4 by omega)]
   ·simp only [if_neg hc]
  ·rw [hm2]
   cases d_g x <;> by_cases hc : x.f4 > -1
   ·simpa [hc] using ih _ _ hw (ht' hc)
   ·simpa [hc] using ih _ _ hw ht
   ·simpa [hc] using ih _ _ hw' (ht' hc)
   ·simpa [hc] using ih _ _ hw' ht
def idleB (l : List S33) (c : Nat) : Bool:=(l.any fun x => d_g x && x.f7.toNat.testBit c) && !(l.any fun x => decide (x.f4 = (c : Int)))
def n_T (l : List S33) : List Nat:=(List.range 8).filter (idleB l)
theorem o_N : ∀ (l : List S33) (w : Nat),w < 256 → (∀ x ∈ l,Fine x) → l_8 w l < 256
 | [],w,h,_ => h
 | x :: l,w,h,hf => by
  obtain ⟨h1,h2,h3,h4,h5,h6⟩:=hf x (by simp)
  refine o_N l _ ?_ (fun y hy => hf y (by simp [hy]))
  cases d_g x
  ·exact h
  ·exact Nat.or_lt_two_pow (n:=8) h (by omega)
theorem s_n (l : List S33) (hf : ∀ x ∈ l,Fine x) : g_z (nd (l_8 0 l) (takeN 0 l)) = n_T l:=by
 unfold g_z n_T
 congr 1
 funext c
 have:=o_N l 0 (by decide) hf
 rw [y_z (by omega),l_9,l_7]
 simp [idleB]
theorem x_i (a : Int) (l : List S33) (hl : l.length ≤ 1000) (hf : f_u a l = true → ∀ x ∈ l,Fine x) : Ev (fun k => a_T.f k a l) (if f_u a l = true then (n_T l).map (fun x : Nat => (x : Int)) else []):=by
 unfold a_T.f
 refine Ev.bind (n_Y a l (by omega)) ?_
 cases h : f_u a l
 ·exact Ev.now _
 have:=r_n l hl (hf h) l [] 0 0 rfl (by decide) (by decide)
 rw [s_n l (hf h)] at this
 simpa using this
theorem o_J (l : List S33) (hl : l.length ≤ 1000) (hf : ∀ x ∈ l,Fine x) (a : Int) (out : List Int) (ho : out.length ≤ 8) (c : Nat) (hc : c < 8) (R : List Int)
 (hn : Ev (fun k => a_t.l0 k (if idleB l c = true then out ++ [(c : Int)] else out) ((c + 1 : Nat) : Int) a l) R) : ∀ (suf pre : List S33) (wa ta : Bool),l = pre ++ suf →
 ((wa || suf.any fun x => d_g x && x.f7.toNat.testBit c) && !(ta || suf.any fun x => decide (x.f4 = (c : Int)))) = idleB l c →
 Ev (fun k => a_t.l1 k out (c : Int) wa ta (pre.length : Int) a l) R
 | [],pre,wa,ta,h,hi => by
  have:=j_M h
  simp only [List.any_nil,Bool.or_false] at hi
  refine Ev.step (f:=fun k => if wa = true then (if ta = true then (a_t.l0 k out ((c + 1 : Nat) : Int) a l) else (a_t.l0 k (out ++ [(c : Int)]) ((c + 1 : Nat) : Int) a l)) else (a_t.l0 k out ((c + 1 : Nat) : Int) a l)) (fun k => ?_) ?_
  ·rw [a_t.l1,if_neg (by omega),e_1 c (by omega),if_pos (show out.length < 17592186044416 by omega)]
  ·rw [← hi] at hn
   cases wa <;> cases ta <;> simpa using hn
 | x :: suf,pre,wa,ta,h,hi => by
  have hlt:=o_1 h
  have hx:=hf x (by subst h;simp)
  have hwt:=s_x x hx
  obtain ⟨h1,h2,h3,h4,h5,h6⟩:=hx
  obtain ⟨m,hm⟩ : ∃ m : Nat,x.f7 = (m : Int):=⟨x.f7.toNat,by omega⟩
  have hhas : a_2.f x.f7 (c : Int) = some (m.testBit c):=by rw [hm,s_R m (c : Int),p_B _ c hc]
  have hm2 : x.f7.toNat = m:=by omega
  have hs : wrap64 ((pre.length : Int) + 1) = ((pre ++ [x]).length : Int):=h_R (by omega)
  rw [List.any_cons,List.any_cons,hm2] at hi
  have ih:=o_J l hl hf a out ho c hc R hn suf (pre ++ [x]) (wa || (d_g x && m.testBit c)) (ta || decide (x.f4 = (c : Int))) (i_p h) (by simpa [Bool.or_assoc] using hi)
  have hj : Ev (fun k => a_t.j2 k out (c : Int) wa (ta || decide (x.f4 = (c : Int))) (pre.length : Int) a l) R:=by
   refine Ev.step (f:=fun k => a_t.l1 k out (c : Int) (wa || (d_g x && m.testBit c)) (ta || decide (x.f4 = (c : Int))) ((pre ++ [x]).length : Int) a l) (fun k => ?_) ih
   rw [a_t.j2,if_pos (by omega),if_pos (by omega),rdm h,hwt,Option.bind_some,hhas,Option.bind_some,hs]
   cases d_g x <;> cases m.testBit c <;> simp
  refine Ev.step (f:=fun k => a_t.j2 k out (c : Int) wa (ta || decide (x.f4 = (c : Int))) (pre.length : Int) a l) (fun k => ?_) hj
  rw [a_t.l1,if_pos (by omega),if_pos (by omega),rdm h]
  by_cases e : x.f4 = (c : Int)
  ·simp [e]
  ·simp [e]
theorem o_I (l : List S33) (hl : l.length ≤ 1000) (hf : ∀ x ∈ l,Fine x) (a : Int) : ∀ n (c : Nat) (out : List Int),c + n = 8 → out.length ≤ c →
 Ev (fun k => a_t.l0 k out (c : Int) a l) (out ++ (((List.range n).map (· + c)).filter (idleB l)).map fun x : Nat => (x : Int))
 | 0,c,out,h,ho => by
  refine Ev.step (f:=fun _ => some out) (fun k => ?_) (by simpa using Ev.now out)
  rw [a_t.l0,if_neg (by omega)]
 | n + 1,c,out,h,ho => by
  have hlen : (if idleB l c = true then out ++ [(c : Int)] else out).length ≤ c + 1:=by
   by_cases hh : idleB l c = true
   ·rw [if_pos hh,List.length_append,List.length_singleton];omega
   ·rw [if_neg hh];omega
  have ih:=o_I l hl hf a n (c + 1) (if idleB l c = true then out ++ [(c : Int)] else out) (by omega) hlen
  have h1:=o_J l hl hf a out (by omega) c (by omega) _ ih l [] false false rfl (by simp [idleB])
  have e : out ++ (((List.range (n + 1)).map (· + c)).filter (idleB l)).map (fun x : Nat => (x : Int)) = (if idleB l c = true then out ++ [(c : Int)] else out) ++ (((List.range n).map (· + (c + 1))).filter (idleB l)).map fun x : Nat => (x : Int):=by
   rw [List.range_succ_eq_map,List.map_cons,List.map_map,List.filter_cons,Nat.zero_add]
   have e2 : ((fun x => x + c) ∘ Nat.succ) = (fun x : Nat => x + (c + 1)):=by funext x;simp;omega
   rw [e2]
   cases idleB l c <;> simp
  rw [e]
  refine Ev.step (f:=fun k => a_t.l1 k out (c : Int) false false 0 a l) (fun k => ?_) (by simpa using h1)
  rw [a_t.l0,if_pos (by omega)]
theorem w_2 (a : Int) (l : List S33) (hl : l.length ≤ 1000) (hf : ∀ x ∈ l,Fine x) : Ev (fun k => a_t.f k a l) ((n_T l).map (fun x : Nat => (x : Int))):=by
 unfold a_t.f
 have:=o_I l hl hf a 8 0 [] rfl (by simp)
 simpa [n_T] using this
theorem o_7 (A : List Int) (hA : A.length ≤ 1000) : Ev (fun k => a_z.f k A A) true:=by
 have key : ∀ d i,i + d = A.length → Ev (fun k => a_z.l0 k A A (A.length : Int) (i : Int)) true:=by
  intro d
  induction d with
  | zero =>
   intro i h
   refine Ev.step (f:=fun _ => some true) (fun k => ?_) (Ev.now _)
   rw [a_z.l0,if_neg (by omega)]
  | succ d ih =>
   intro i h
   refine Ev.step (f:=fun k => a_z.l0 k A A (A.length : Int) ((i + 1 : Nat) : Int)) (fun k => ?_) (ih (i + 1) (by omega))
   rw [a_z.l0,if_pos (by omega),if_pos (by omega),if_pos (by omega),if_pos (by omega),if_pos rfl,e_1 i (by omega)]
 unfold a_z.f
 simp only [if_true]
 simpa using key A.length 0 (by omega)
theorem s_B : Ev (fun k => a_Q.f k) true:=Ev.of a_Q.mono (k:=100) (by kernel_rfl)
theorem i_r (a : Int) (l : List S33) (h : wf24 ⟨a,l⟩) : ∃ k,a_E.f k a l = some true:=by
 refine Ev.rounds (g:=fun k => a_E.f k a l) (Ev.bind s_B ?_)
 simp only [if_true]
 by_cases h30 : (l.length : Int) > 30
 ·simp only [if_pos h30];exact Ev.now _
 simp only [if_neg h30]
 have hl : l.length ≤ 1000:=by omega
 have hm : ∀ x ∈ l,May x:=fun x hx => by
  obtain ⟨_,_,_,_,_,_,_,h7,_⟩:=h.2.2 x hx
  have:=bounds_u32 h7
  exact ⟨this.1,by omega⟩
 have hm' : ∀ i : Int,May (a_a l i):=fun i => by
  unfold a_a
  rw [List.getD_eq_getElem?_getD]
  cases e : l[i.toNat]? with
  | none => exact ⟨by simp [z33],by simp [z33]⟩
  | some x => exact hm x (List.mem_of_getElem? e)
 have hf : f_u a l = true → ∀ x ∈ l,Fine x:=fun hr => t_l hr hm
 refine Ev.bind (r_I a l hl hf) (Ev.bind (t_g a l hl) (Ev.bind (x_i a l hl hf) (Ev.bind (r_w l (by omega) hm' a) ?_)))
 cases hr : f_u a l
 ·exact Ev.now _
 simp only [if_true,Bool.true_and]
 refine Ev.bind (r_v a l hl (hf hr)) ?_
 simp only [BEq.rfl,if_true]
 refine Ev.bind (s_v a l hl (hf hr)) ?_
 simp only [BEq.rfl,if_true]
 refine Ev.bind (w_2 a l hl (hf hr)) ?_
 refine Ev.bind (o_7 _ ?_) (Ev.now _)
 have : (n_T l).length ≤ 8:=by unfold n_T;exact Nat.le_trans (List.length_filter_le _ _) (by simp)
 rw [List.length_map]
 omega
end Go.Proofs.YtgglkfilkagblaaDoor.Pure
end
section
namespace Go.Proofs.YtgglkfilkagblaaDoor.auditMoments
open Go.ChangeShapes Go.WideShapes Go.ChangeAt Go.RowKit Go.Proofs.YtgglkfilkagblaaDoor.Q
open Go.Proofs.YtgglkfilkagblaaDoorW.PrintWords Go.Proofs.YtgglkfilkagblaaDoorW.PrintLast Go.Proofs.YtgglkfilkagblaaDoorW.PrintMore
set_option linter.unusedVariables false
set_option linter.unusedSimpArgs false
theorem y_x {W : World} (h : laidMetH Tryd.prog Rows.auditMomentsRow.laid W) : e_u W:=by
 rw [MakeChecks.laidMetH_plain _ _ _ (by kernel_rfl)] at h
 have h' : laidMet Tryd.prog [("math/bits.deBruijn32tab", Lib.tabData .u8 (Lib.deBruijn32tab.map fun n : Nat => (n : Int)))] W := h
 have ht:=Lib.tabIs_of_head (g:=0) (by kernel_rfl) (by kernel_rfl) Tryd.underlying74 Tryd.underlying5 (by kernel_rfl) (by kernel_rfl) h'
 intro j hj
 have hc:=ht.cell (g:=0) (by kernel_rfl) j (by simpa using hj)
 rw [hc]
 simp only [List.getD_eq_getElem?_getD,List.getElem?_map]
 rw [List.getElem?_eq_getElem hj]
 rfl
theorem r_Z (os : Os) (args : Array Value) : laidMetH Tryd.prog Rows.auditMomentsRow.laid ((World.doorLaid Tryd.prog 14 os).forCall (fun _ _ => 0) ⟨#[],args,[]⟩).memory :=
 laidMetH_of_parts3 (fuel:=8) (laidMet_of_run' 8 (by kernel_rfl) (by kernel_rfl)) (by kernel_rfl) (by kernel_rfl)
set_option maxRecDepth 100000 in
theorem lifted (os : Os) (started : os.Started) (H : Type) (enc : TypeId × Value → H) :
 ReturnsInHanded {} Tryd.checked os 3 .any (fun w args => (Rows.auditMomentsSpec.pre enc Tryd.prog Tryd.f3 [] false w args ∧ laidMetH Tryd.prog Rows.auditMomentsRow.laid w) ∧ sizedMet enc Tryd.prog Tryd.f3 (OpenSpec.ofChange Rows.auditMomentsSpec) false w args) (Rows.auditMomentsSpec.post enc Tryd.prog Tryd.f3 false true false false):=by
 refine returnsInHanded_of_change_and (C:=Tryd.checked) (X:=fun w _ => laidMetH Tryd.prog Rows.auditMomentsRow.laid w) (fun _ _ _ hh h => h.of_heap hh) own started (by kernel_rfl) Tryd.func3
  (ChangeSpec.witness_shaped (enc:=enc) (C:=Tryd.checked) (os:=os) (X:=fun w _ => laidMetH Tryd.prog Rows.auditMomentsRow.laid w) false (World.doorLaid Tryd.prog 14 os) #[.agg #[.int .i64 0,.slice none 0 0]] 8 rfl (World.shaped_of_RefB (by kernel_rfl) (by kernel_rfl)) (by kernel_rfl) (by kernel_rfl) (by kernel_rfl) (r_Z os _)) ?_
 intro W base args ds gs before hval0 hW hcnd hsz0 hL _
 have hT:=y_x hL
 have hval : ∀ (j : Nat) t v,Tryd.f3.params[j]? = some t → args[j]? = some v → Value.okWide Tryd.prog W .any base t v:=hval0
 have hW':=hW
 obtain ⟨p,q,hA0,hV,rfl,hfz,hnd⟩:=hW
 have hA : DataW.TrodAll enc Tryd.prog W 0 (fun _ => true) true Tryd.f3.params.toList args.toList ds p:=hA0
 rw [Tryd.params3] at hA hval
 obtain ⟨v0,vs0,d0,ds0,p0,q0,hargs,rfl,rfl,h0,r0⟩:=trodAll_cons hA
 obtain ⟨rfl,rfl,rfl⟩:=trodAll_nil r0
 obtain rfl : args = #[v0]:=by cases args;simp_all
 obtain ⟨rfl,rfl⟩:=trodVars_none hV
 have k0:=h0
 have lt0 : ∀ x ∈ p0,x.block < W.heap.size:=by obtain ⟨m,hm⟩:=k0;exact DataW.trod_lt m _ _ _ hm
 obtain ⟨cs0,rfl,hz0⟩:=okWide_struct Tryd.underlying24 (hval 0 24 v0 rfl rfl)
 obtain ⟨fuel0,hf0⟩:=h0
 obtain ⟨x0,hK0,wf0_⟩:=op24.open_ hf0
 obtain ⟨A0_1,c0_1,he0,hc0_1,hr0_1⟩:=i_J hK0
 have hq0:=toList_eq he0
 simp only [Value.cells] at hq0
 subst hq0
 obtain ⟨K,hK⟩:=Pure.i_r x0.f0 x0.f1 wf0_
 refine (a_E.calls _ _ _ _ _ _ _ hr0_1 hc0_1 hT hK).mono fun e W' ⟨he,bel⟩ => ?_
 subst he
 exact ⟨_,rfl,_,_,_,[],_,[],hW',trodAll_mk1 (shut_bool Tryd.underlying4 _),(trodAll_cons_mk (Below.trod laidOut (by kernel_rfl) (of_decide_eq_true (by kernel_rfl)) k0 bel lt0) trodAll_mk0),rfl,bel.frame _,fun h => by cases h⟩
theorem over : Rows.auditMomentsRow.holds Tryd.pinned (OpenSpec.ofChange Rows.auditMomentsSpec) :=
 OpenClaim.holds_of_wide 3 Tryd.f3 rfl rfl rfl rfl rfl rfl rfl ⟨rfl,rfl,rfl,rfl,rfl⟩ rfl rfl rfl rfl rfl (by kernel_rfl) Tryd.func3 (by kernel_rfl)
  (of_decide_eq_true (by kernel_rfl)) (by unfold Func.isWrapper;first|(rw [if_pos (by decide +kernel)];kernel_rfl)|(rw [if_neg (by decide +kernel)];exact ⟨rfl,rfl⟩))
  (fun os started H enc _ => lifted os started H enc)
theorem z_S : Rows.AuditMomentsCardSaid :=
 Claim7.holds_tied_plain_at .later [] [.data] true (true, "96a70d4718ba9489c270949b74c300e5bf2d808b5980120bfb446f63a4fd6787") false
  over (fun _ h => by cases h) (by kernel_rfl) (fun _ h => by cases h) auditMoments_row_tie rfl ⟨rfl,rfl⟩ (by kernel_rfl) rfl
  (fun f fn hf hfn => by
   obtain rfl : f = 3 := Option.some.inj ((show Tryd.prog.funcNamed "mainsheet/mainsheetlaw29.AuditMoments" = some 3 by kernel_rfl).symm.trans hf) |>.symm
   obtain rfl : fn = Tryd.f3:=(Option.some.inj (Tryd.func3.symm.trans hfn)).symm
   exact ⟨by kernel_rfl,fun j t ht => by
    rw [Tryd.params3] at ht
    rcases j with _|j
    ·obtain rfl : 24 = t:=by simpa using ht
     exact (show Tryd.prog.wantsStandIn 24 = false by kernel_rfl)
    ·simp at ht⟩)
  (by kernel_rfl)
theorem proved : Rows.AuditMomentsCardSaid:=z_S
#print axioms proved
end Go.Proofs.YtgglkfilkagblaaDoor.auditMoments
namespace Go.Proofs.YtgglkfilkagblaaDoor
theorem auditMoments_holds : Rows.AuditMomentsCardSaid:=auditMoments.proved
end Go.Proofs.YtgglkfilkagblaaDoor
end
