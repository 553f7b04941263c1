/- Part 4 of 6 of what the row of PoolParts stands on: contracts over the given program's functions, the plain law, the row; no condition beyond those that each theorem states. -/
import Derived.Test.YtkhbffjfclepfaaDoorXPoolParts2
import Derived.Lib.SliceRun
import Derived.IntWalk
import Derived.RangeFuncNested
import Derived.RangeFuncBound
import Derived.RangeFuncBox
import Derived.RangeFuncCalls
import Derived.RangeFuncLeaves
import Derived.Shelf.RegionOpen
import Derived.OwnWalkIn
import Derived.TacticsInMore
import Derived.LoopNIn
import Derived.LoopIn
section
namespace Go.Proofs.YtkhbffjfclepfaaDoor.Q
open Go.RowKit Go.Proofs.YtkhbffjfclepfaaDoorW.PrintWords Go.Proofs.YtkhbffjfclepfaaDoorW.PrintLast Go.Proofs.YtkhbffjfclepfaaDoorW.PrintMore
set_option linter.unusedVariables false
set_option linter.unusedSimpArgs false
def b_D.f (a0 : Int) : Option (List Int × Int):=(b_w.f a0).bind fun bt102 => (if bt102.2 = 0 then (if bt102.1 = 0 then (some (([] : List Int),2)) else (some ((([bt102.1] : List Int)),0))) else (some (([] : List Int),2)))
set_option maxHeartbeats 8000000 in
set_option maxRecDepth 100000 in
theorem b_D.calls (a0 : Int) (r1 : List Int) (r2 : Int) (w : World) (h : b_D.f a0 = some (r1,r2)) :
 Calls Tryd.prog 5 #[.int .i64 a0] w fun e w' => ∃ v0_ : Value,e = .returned (.tuple #[.agg #[v0_],.int .i64 r2]) ∧ Kd.R (Kd.int .u32) 32 w' w.heap.size (fun _ => True) v0_ r1 ∧ Below w.heap.size w w':=by
 have hu26:=Tryd.underlying26
 have HB:=a_a.mk (Below.refl w.heap.size w)
 have H : ((b_w.f a0).bind fun bt102 => (if bt102.2 = 0 then (if bt102.1 = 0 then (some (([] : List Int),2)) else (some ((([bt102.1] : List Int)),0))) else (some (([] : List Int),2)))) = some (r1,r2):=h
 clear h
 replace H:=Option.bind_eq_some_iff.mp H
 obtain ⟨⟨t102,t103⟩,A20,H⟩:=H
 replace H : (if t103 = 0 then (if t102 = 0 then (some (([] : List Int),2)) else (some ((([t102] : List Int)),0))) else (some (([] : List Int),2))) = some (r1,r2):=H
 have A2:=a_a.mk A20
 clear A20
 by_cases c3 : t103 = 0
 rotate_left
 ·rw [if_neg c3] at H
  have c3b0 : (t103 == 0) = false:=beq_eq_false_iff_ne.mpr c3
  have c3b1 : (t103 != 0) = true:=bne_iff_ne.mpr c3
  simp only [Option.some.injEq,Prod.mk.injEq] at H
  obtain ⟨rfl,rfl⟩:=H
  go_enter Tryd.func5,Tryd.ntmps5
  go_wp2_with (first|((with_reducible refine a_u (N:=2) rfl ?_);refine a_t ?hg (N:=2) ?hd (cs:=#[.slice none 0 0]) (t:=26) ?hr ?_;(case hd => rfl);(case hg => rfl);(case hr => first|(go_simp;done)|(go_simp;rfl));intro c_l hg w12 hbox hb;have c_d:=a_a.mk (hbox);have g_5:=a_a.mk ((by rw [hg];exact (a_r (lup_ HB.out)) : w.heap.size ≤ c_l));have d_x:=a_a.mk ((by rw [hg];exact (a_r (lup_ HB.out)) : w.heap.size ≤ c_l));replace HB:=a_a.mk (a_i (lup_ HB.out) hb);clear hb hbox hg)|((with_reducible refine a_x (f:=11) rfl ?_);refine a_Y (some 8) rfl rfl Tryd.func11 (by kernel_rfl) rfl #[.int .i64 a0] rfl (by (try simp only [List.map_toArray,List.map_cons,List.map_nil]);first|done|rfl|(simp only [List.length_drop,List.length_take];rfl)) ?_;(with_reducible refine (b_w.calls a0 t102 t103 _ A2.out).mono ?_);rintro e w' ⟨rfl,⟨nd,rfl⟩⟩;refine ⟨_,rfl,?_⟩;(try (rw [c_3 w12];generalize hq_ : World.drewN w12 _ = w12;replace c_d : a_a (w12.heap[c_l]? = some (.cells #[.slice none 0 0] 26 (0,0))):=⟨by rw [← hq_];exact (bup_ c_d.out)⟩;replace HB : a_a (Below w.heap.size w w12):=⟨by rw [← hq_];exact (by repeat (first|(with_reducible first|exact HB.out|apply a_e|apply a_c|apply a_g|refine a_d ?_ d_x.out)|exact HB.out))⟩;clear hq_));have h_G : w12.cell? ⟨c_l,0,none⟩ = some (.slice none 0 0):=(a_h c_d.out 0).trans rfl;have h_H:=a_f c_d.out 0))
  refine bodyPost_ret (b_q rfl _ _ c_l 26 #[.slice none 0 0] (0,0) _ rfl (by (with_reducible repeat (first|refine a_o ?_ _|refine a_m ?_|refine a_p ?_ _));refine a_D (cs:=#[.slice none 0 0]) ?_ 0 _ rfl;(with_reducible repeat (first|refine a_o ?_ _|refine a_m ?_|refine a_p ?_ _));exact c_d.out) Tryd.underlying26 rfl (by kernel_rfl)) rfl ?_
  exact ⟨_,by first|rfl|(simp [a_y,a_z] <;> rfl)|(simp [*, a_y,a_z] <;> rfl),by first|exact Kd.c_6 _ _ _ _ _|exact Kd.g_G _ _ _ _ _|exact Kd.g_O _ _ _ _ _|exact Kd.g_2 _ _ _ _ _|exact Kd.g_Q _ _ _ _ _,by repeat (first|(with_reducible first|exact HB.out|apply a_e|apply a_c|apply a_g|refine a_d ?_ d_x.out)|exact HB.out)⟩
 rw [if_pos c3] at H
 have c3b0 : (t103 == 0) = true:=beq_iff_eq.mpr c3
 have c3b1 : (t103 != 0) = false:=bne_eq_false_iff_eq.mpr c3
 clear c3
 by_cases c4 : t102 = 0
 ·rw [if_pos c4] at H
  have c4b0 : (t102 == 0) = true:=beq_iff_eq.mpr c4
  have c4b1 : (t102 != 0) = false:=bne_eq_false_iff_eq.mpr c4
  clear c4
  simp only [Option.some.injEq,Prod.mk.injEq] at H
  obtain ⟨rfl,rfl⟩:=H
  go_enter Tryd.func5,Tryd.ntmps5
  go_wp2_with (first|((with_reducible refine a_u (N:=2) rfl ?_);refine a_t ?hg (N:=2) ?hd (cs:=#[.slice none 0 0]) (t:=26) ?hr ?_;(case hd => rfl);(case hg => rfl);(case hr => first|(go_simp;done)|(go_simp;rfl));intro c_l hg w5 hbox hb;have c_d:=a_a.mk (hbox);have g_5:=a_a.mk ((by rw [hg];exact (a_r (lup_ HB.out)) : w.heap.size ≤ c_l));have d_x:=a_a.mk ((by rw [hg];exact (a_r (lup_ HB.out)) : w.heap.size ≤ c_l));replace HB:=a_a.mk (a_i (lup_ HB.out) hb);clear hb hbox hg)|((with_reducible refine a_x (f:=11) rfl ?_);refine a_Y (some 8) rfl rfl Tryd.func11 (by kernel_rfl) rfl #[.int .i64 a0] rfl (by (try simp only [List.map_toArray,List.map_cons,List.map_nil]);first|done|rfl|(simp only [List.length_drop,List.length_take];rfl)) ?_;(with_reducible refine (b_w.calls a0 t102 t103 _ A2.out).mono ?_);rintro e w' ⟨rfl,⟨nd,rfl⟩⟩;refine ⟨_,rfl,?_⟩;(try (rw [c_3 w5];generalize hq_ : World.drewN w5 _ = w5;replace c_d : a_a (w5.heap[c_l]? = some (.cells #[.slice none 0 0] 26 (0,0))):=⟨by rw [← hq_];exact (bup_ c_d.out)⟩;replace HB : a_a (Below w.heap.size w w5):=⟨by rw [← hq_];exact (by repeat (first|(with_reducible first|exact HB.out|apply a_e|apply a_c|apply a_g|refine a_d ?_ d_x.out)|exact HB.out))⟩;clear hq_));have f_o : w5.cell? ⟨c_l,0,none⟩ = some (.slice none 0 0):=(a_h c_d.out 0).trans rfl;have f_p:=a_f c_d.out 0))
  refine bodyPost_ret (b_q rfl _ _ c_l 26 #[.slice none 0 0] (0,0) _ rfl (by (with_reducible repeat (first|refine a_o ?_ _|refine a_m ?_|refine a_p ?_ _));refine a_D (cs:=#[.slice none 0 0]) ?_ 0 _ rfl;(with_reducible repeat (first|refine a_o ?_ _|refine a_m ?_|refine a_p ?_ _));exact c_d.out) Tryd.underlying26 rfl (by kernel_rfl)) rfl ?_
  exact ⟨_,by first|rfl|(simp [a_y,a_z] <;> rfl)|(simp [*, a_y,a_z] <;> rfl),by first|exact Kd.c_6 _ _ _ _ _|exact Kd.g_G _ _ _ _ _|exact Kd.g_O _ _ _ _ _|exact Kd.g_2 _ _ _ _ _|exact Kd.g_Q _ _ _ _ _,by repeat (first|(with_reducible first|exact HB.out|apply a_e|apply a_c|apply a_g|refine a_d ?_ d_x.out)|exact HB.out)⟩
 rw [if_neg c4] at H
 have c4b0 : (t102 == 0) = false:=beq_eq_false_iff_ne.mpr c4
 have c4b1 : (t102 != 0) = true:=bne_iff_ne.mpr c4
 obtain ⟨y104,hy104⟩ : ∃ y_ : List Int,y_ = (([t102] : List Int)):=⟨_,rfl⟩
 replace H : (some (y104,0)) = some (r1,r2):=by first|(rw [hy104];with_reducible exact H)|(have H2_:=(Option.bind_some _ _).symm.trans H;rw [hy104];with_reducible exact H2_)|(have H2_:=(Option.bind_some _ _).symm.trans H;with_reducible exact H2_)|with_reducible exact H|(rw [hy104];exact H)|exact H
 have Ny104:=a_a.mk hy104
 clear hy104
 simp only [Option.some.injEq,Prod.mk.injEq] at H
 obtain ⟨rfl,rfl⟩:=H
 go_enter Tryd.func5,Tryd.ntmps5
 go_wp2_with (first|((with_reducible refine a_u (N:=2) rfl ?_);refine a_t ?hg (N:=2) ?hd (cs:=#[.slice none 0 0]) (t:=26) ?hr ?_;(case hd => rfl);(case hg => rfl);(case hr => first|(go_simp;done)|(go_simp;rfl));intro c_l hg w7 hbox hb;have c_d:=a_a.mk (hbox);have g_5:=a_a.mk ((by rw [hg];exact (a_r (lup_ HB.out)) : w.heap.size ≤ c_l));have d_x:=a_a.mk ((by rw [hg];exact (a_r (lup_ HB.out)) : w.heap.size ≤ c_l));replace HB:=a_a.mk (a_i (lup_ HB.out) hb);clear hb hbox hg)|((with_reducible refine a_x (f:=11) rfl ?_);refine a_Y (some 8) rfl rfl Tryd.func11 (by kernel_rfl) rfl #[.int .i64 a0] rfl (by (try simp only [List.map_toArray,List.map_cons,List.map_nil]);first|done|rfl|(simp only [List.length_drop,List.length_take];rfl)) ?_;(with_reducible refine (b_w.calls a0 t102 t103 _ A2.out).mono ?_);rintro e w' ⟨rfl,⟨nd,rfl⟩⟩;refine ⟨_,rfl,?_⟩;(try (rw [c_3 w7];generalize hq_ : World.drewN w7 _ = w7;replace c_d : a_a (w7.heap[c_l]? = some (.cells #[.slice none 0 0] 26 (0,0))):=⟨by rw [← hq_];exact (bup_ c_d.out)⟩;replace HB : a_a (Below w.heap.size w w7):=⟨by rw [← hq_];exact (by repeat (first|(with_reducible first|exact HB.out|apply a_e|apply a_c|apply a_g|refine a_d ?_ d_x.out)|exact HB.out))⟩;clear hq_)))|((with_reducible refine a_u (N:=19) rfl ?_);refine Kd.c_0 (Kd.int .u32) _ 32 ?hg (N:=19) ?hd (xs:=([t102] : List Int)) (inner:=[.int .u32 t102]) (ok:=fun _ => True) (okp:=fun _ => True) ?hr ?hp (fun _ hk => hk) trivial (Below.refl _ _) (Nat.le_refl _) (by simp) ?_;(case hd => rfl);(case hg => rfl);(case hr => first|(go_simp;done)|(go_simp;rfl));(case hp => exact (Reps.one (show Kd.M (Kd.int .u32) _ _ _ t102 [.int .u32 t102] from rfl) (Reps.none _ _)));intro v105 w8 ho9 hb hg_ hnew_;clear hg_ hnew_;(first|rw [← Ny104.out] at ho9|(simp only [Int.reduceToNat] at ho9;rw [← Ny104.out] at ho9));have g_6:=a_a.mk (Kd.a_0 ho9 (a_r (by repeat (first|(with_reducible first|exact HB.out|apply a_e|apply a_c|apply a_g|refine a_d ?_ d_x.out)|exact HB.out))));replace c_d:=a_a.mk (a_b (bup_ c_d.out) hb);replace HB:=a_a.mk (a_i (by repeat (first|(with_reducible first|exact HB.out|apply a_e|apply a_c|apply a_g|refine a_d ?_ d_x.out)|exact HB.out)) hb);clear hb ho9;obtain ⟨Ao10,co10,eo10⟩:=Kd.a_W g_6.out;subst eo10;have h_I : w8.cell? ⟨c_l,0,none⟩ = some (.slice none 0 0):=(a_h c_d.out 0).trans rfl;have h_J:=a_f c_d.out 0))
 refine bodyPost_ret (b_q rfl _ _ c_l 26 #[.slice Ao10 y104.length co10] (0,0) _ rfl (by (with_reducible repeat (first|refine a_o ?_ _|refine a_m ?_|refine a_p ?_ _));refine a_D (cs:=#[.slice none 0 0]) ?_ 0 _ rfl;(with_reducible repeat (first|refine a_o ?_ _|refine a_m ?_|refine a_p ?_ _));exact c_d.out) Tryd.underlying26 rfl (by kernel_rfl)) rfl ?_
 exact ⟨_,by first|rfl|(simp [a_y,a_z] <;> rfl)|(simp [*, a_y,a_z] <;> rfl),by (with_reducible repeat (first|apply Kd.a_Q|apply Kd.a_M|apply Kd.a_P));exact Kd.a_V (Kd.a_O (p:=⟨c_l,0,none⟩) (Kd.a_R g_6.out c_d.out (by decide)) (fun _ hk => hk.2) (.slice Ao10 y104.length co10)) (fun _ hk => trivial),by repeat (first|(with_reducible first|exact HB.out|apply a_e|apply a_c|apply a_g|refine a_d ?_ d_x.out)|exact HB.out)⟩
end Go.Proofs.YtkhbffjfclepfaaDoor.Q
end
section
namespace Go.Proofs.YtkhbffjfclepfaaDoor.Q
open Go.RowKit Go.Proofs.YtkhbffjfclepfaaDoorW.PrintWords Go.Proofs.YtkhbffjfclepfaaDoorW.PrintLast Go.Proofs.YtkhbffjfclepfaaDoorW.PrintMore
set_option linter.unusedVariables false
set_option linter.unusedSimpArgs false
def a_w.f (k : Nat)  : Option (Bool):=(b_D.f 4).bind fun bt110 => ((a_J.f k bt110.1 0 12).bind fun bt115 => ((a_H.f k bt115.1 2 0).bind fun bt121 => ((a_H.f k bt121.1 3 0).bind fun bt127 => (if bt110.2 = 0 then (if bt115.2.2 = 0 then (if bt121.2.2 = 0 then (if bt127.2.2 = 181 then (if bt115.2.1 = 1 then (if bt121.2.1 = 1 then (if (bt121.1.length : Int) = 2 then (if 0 < (bt121.1.length : Int) then (some ((rd bt121.1 0) == 7)) else (none)) else (some false)) else (some false)) else (some false)) else (some false)) else (some false)) else (some false)) else (some false)))))
theorem a_w.mono : ∀ k,LeO (a_w.f k ) (a_w.f (k + 1) ):=by
 intro  k
 unfold a_w.f
 repeat' first
  | (with_reducible exact a_H.mono _ _ _ _)
  | (with_reducible exact a_J.mono _ _ _ _)
  | (with_reducible exact LeO.refl _)
  | (with_reducible exact LeO.none _)
  | (with_reducible refine LeO.ite ?_ ?_)
  | (with_reducible refine LeO.bind ?_ (fun _ => ?_))
  | exact a_H.mono _ _ _ _
  | exact a_J.mono _ _ _ _
  | exact LeO.none _
  | refine LeO.ite ?_ ?_
  | refine LeO.bind ?_ (fun _ => ?_)
set_option maxHeartbeats 8000000 in
set_option maxRecDepth 100000 in
theorem a_w.calls (k : Nat)  (r : Bool) (w : World) (h : a_w.f k  = some r) :
 Calls Tryd.prog 4 #[] w fun e w' => e = .returned (.bool r) ∧ Below w.heap.size w w':=by
 have hr : r = true:=Option.some.inj ((d_h (g:=fun k => a_w.f k) a_w.mono (Nat.le_max_left k 200) h).symm.trans (d_h (g:=fun k => a_w.f k) a_w.mono (Nat.le_max_right k 200) (show a_w.f 200 = some true by kernel_rfl)))
 have hu26:=Tryd.underlying26
 have HB:=a_a.mk (Below.refl w.heap.size w)
 have H : ((b_D.f 4).bind fun bt110 => ((a_J.f k bt110.1 0 12).bind fun bt115 => ((a_H.f k bt115.1 2 0).bind fun bt121 => ((a_H.f k bt121.1 3 0).bind fun bt127 => (if bt110.2 = 0 then (if bt115.2.2 = 0 then (if bt121.2.2 = 0 then (if bt127.2.2 = 181 then (if bt115.2.1 = 1 then (if bt121.2.1 = 1 then (if (bt121.1.length : Int) = 2 then (if 0 < (bt121.1.length : Int) then (some ((rd bt121.1 0) == 7)) else (none)) else (some false)) else (some false)) else (some false)) else (some false)) else (some false)) else (some false)) else (some false)))))) = some r:=h
 clear h
 replace H:=Option.bind_eq_some_iff.mp H
 obtain ⟨⟨t110,t113⟩,A10,H⟩:=H
 replace H : ((a_J.f k t110 0 12).bind fun bt115 => ((a_H.f k bt115.1 2 0).bind fun bt121 => ((a_H.f k bt121.1 3 0).bind fun bt127 => (if t113 = 0 then (if bt115.2.2 = 0 then (if bt121.2.2 = 0 then (if bt127.2.2 = 181 then (if bt115.2.1 = 1 then (if bt121.2.1 = 1 then (if (bt121.1.length : Int) = 2 then (if 0 < (bt121.1.length : Int) then (some ((rd bt121.1 0) == 7)) else (none)) else (some false)) else (some false)) else (some false)) else (some false)) else (some false)) else (some false)) else (some false))))) = some r:=H
 have A1:=a_a.mk A10
 clear A10
 replace H:=Option.bind_eq_some_iff.mp H
 obtain ⟨⟨t115,t118,t119⟩,A20,H⟩:=H
 replace H : ((a_H.f k t115 2 0).bind fun bt121 => ((a_H.f k bt121.1 3 0).bind fun bt127 => (if t113 = 0 then (if t119 = 0 then (if bt121.2.2 = 0 then (if bt127.2.2 = 181 then (if t118 = 1 then (if bt121.2.1 = 1 then (if (bt121.1.length : Int) = 2 then (if 0 < (bt121.1.length : Int) then (some ((rd bt121.1 0) == 7)) else (none)) else (some false)) else (some false)) else (some false)) else (some false)) else (some false)) else (some false)) else (some false)))) = some r:=H
 have A2:=a_a.mk A20
 clear A20
 replace H:=Option.bind_eq_some_iff.mp H
 obtain ⟨⟨t121,t124,t125⟩,A30,H⟩:=H
 replace H : ((a_H.f k t121 3 0).bind fun bt127 => (if t113 = 0 then (if t119 = 0 then (if t125 = 0 then (if bt127.2.2 = 181 then (if t118 = 1 then (if t124 = 1 then (if (t121.length : Int) = 2 then (if 0 < (t121.length : Int) then (some ((rd t121 0) == 7)) else (none)) else (some false)) else (some false)) else (some false)) else (some false)) else (some false)) else (some false)) else (some false))) = some r:=H
 have A3:=a_a.mk A30
 clear A30
 replace H:=Option.bind_eq_some_iff.mp H
 obtain ⟨⟨t127,t130,t131⟩,A40,H⟩:=H
 replace H : (if t113 = 0 then (if t119 = 0 then (if t125 = 0 then (if t131 = 181 then (if t118 = 1 then (if t124 = 1 then (if (t121.length : Int) = 2 then (if 0 < (t121.length : Int) then (some ((rd t121 0) == 7)) else (none)) else (some false)) else (some false)) else (some false)) else (some false)) else (some false)) else (some false)) else (some false)) = some r:=H
 have A4:=a_a.mk A40
 clear A40
 by_cases c5 : t113 = 0
 rotate_left
 ·rw [if_neg c5] at H
  exact absurd ((Option.some.inj H).trans hr) (by decide)
 rw [if_pos c5] at H
 have c5b0 : (t113 == 0) = true:=beq_iff_eq.mpr c5
 have c5b1 : (t113 != 0) = false:=bne_eq_false_iff_eq.mpr c5
 clear c5
 by_cases c6 : t119 = 0
 rotate_left
 ·rw [if_neg c6] at H
  exact absurd ((Option.some.inj H).trans hr) (by decide)
 rw [if_pos c6] at H
 have c6b0 : (t119 == 0) = true:=beq_iff_eq.mpr c6
 have c6b1 : (t119 != 0) = false:=bne_eq_false_iff_eq.mpr c6
 clear c6
 by_cases c7 : t125 = 0
 rotate_left
 ·rw [if_neg c7] at H
  exact absurd ((Option.some.inj H).trans hr) (by decide)
 rw [if_pos c7] at H
 have c7b0 : (t125 == 0) = true:=beq_iff_eq.mpr c7
 have c7b1 : (t125 != 0) = false:=bne_eq_false_iff_eq.mpr c7
 clear c7
 by_cases c8 : t131 = 181
 rotate_left
 ·rw [if_neg c8] at H
  exact absurd ((Option.some.inj H).trans hr) (by decide)
 rw [if_pos c8] at H
 have c8b0 : (t131 == 181) = true:=beq_iff_eq.mpr c8
 have c8b1 : (t131 != 181) = false:=bne_eq_false_iff_eq.mpr c8
 clear c8
 by_cases c9 : t118 = 1
 rotate_left
 ·rw [if_neg c9] at H
  exact absurd ((Option.some.inj H).trans hr) (by decide)
 rw [if_pos c9] at H
 have c9b0 : (t118 == 1) = true:=beq_iff_eq.mpr c9
 have c9b1 : (t118 != 1) = false:=bne_eq_false_iff_eq.mpr c9
 clear c9
 by_cases c10 : t124 = 1
 rotate_left
 ·rw [if_neg c10] at H
  exact absurd ((Option.some.inj H).trans hr) (by decide)
 rw [if_pos c10] at H
 have c10b0 : (t124 == 1) = true:=beq_iff_eq.mpr c10
 have c10b1 : (t124 != 1) = false:=bne_eq_false_iff_eq.mpr c10
 clear c10
 by_cases c11 : (t121.length : Int) = 2
 rotate_left
 ·rw [if_neg c11] at H
  exact absurd ((Option.some.inj H).trans hr) (by decide)
 rw [if_pos c11] at H
 have c11b0 : ((t121.length : Int) == 2) = true:=beq_iff_eq.mpr c11
 have c11b1 : ((t121.length : Int) != 2) = false:=bne_eq_false_iff_eq.mpr c11
 clear c11
 by_cases c12 : 0 < (t121.length : Int)
 rotate_left
 ·rw [if_neg c12] at H
  exact absurd H (by simp)
 rw [if_pos c12] at H
 have c12b0 : decide (0 < (t121.length : Int)) = true:=decide_eq_true c12
 have c12b1 : decide (0 < t121.length) = true:=decide_eq_true (by omega)
 clear c12
 obtain rfl:=Option.some.inj H
 go_enter Tryd.func4,Tryd.ntmps4
 go_wp2_with (first|((with_reducible refine a_x (f:=5) rfl ?_);refine a_Y (some 13) rfl rfl Tryd.func5 (by kernel_rfl) rfl #[.int .i64 4] rfl (by (try simp only [List.map_toArray,List.map_cons,List.map_nil]);first|done|rfl|(simp only [List.length_drop,List.length_take];rfl)) ?_;(with_reducible refine (b_D.calls 4 t110 t113 _ A1.out).mono ?_);rintro e w13 ⟨v111,rfl,ho0,hb⟩;refine ⟨_,rfl,?_⟩;have c_e:=a_a.mk (Kd.a_0 ho0 (a_r (lup_ HB.out)));replace HB:=a_a.mk (a_i (lup_ HB.out) hb);(try clear hb);(try clear hb2);(try clear hk);(try clear hi);(try clear ho0))|((with_reducible refine a_u (N:=1) rfl ?_);(try (refine b_r (by rfl) ?_;dsimp only));refine a_t ?hg (N:=1) ?hd (cs:=#[.slice none 0 0]) (t:=26) ?hr ?_;(case hd => rfl);(case hg => rfl);(case hr => first|(go_simp;done)|(go_simp;rfl));intro c_J hg w14 hbox hb;have b_Y:=a_a.mk (hbox);have j_O:=a_a.mk ((by rw [hg];exact (a_r (lup_ HB.out)) : w.heap.size ≤ c_J));have c_A:=a_a.mk ((by rw [hg];exact (a_r (lup_ HB.out)) : w.heap.size ≤ c_J));replace c_e:=a_a.mk (Kd.a_G (rup_ c_e.out) hb);replace HB:=a_a.mk (a_i (lup_ HB.out) hb);clear hb hbox hg;obtain ⟨Ao15,co15,eo15⟩:=Kd.a_W c_e.out;subst eo15;have h_K : w14.cell? ⟨c_J,0,none⟩ = some (.slice none 0 0):=(a_h b_Y.out 0).trans rfl;have h_L:=a_f b_Y.out 0)|((with_reducible refine a_x (f:=9) rfl ?_);refine a_Y (some 18) rfl rfl Tryd.func9 (by kernel_rfl) rfl #[.agg #[.slice Ao15 t110.length co15],.int .i64 0,.int .u32 12] rfl (by (try simp only [List.map_toArray,List.map_cons,List.map_nil]);first|done|rfl|(simp only [List.length_drop,List.length_take];rfl)) ?_;(with_reducible refine (a_J.calls k _ _ t110 0 12 t115 t118 t119 _ ?side1 ?side2 A2.out).mono ?_);(case side1 => refine (Kd.a_B (e:=32) (base:=w.heap.size) (ok:=fun k_ => True) (n:=t110.length) (c:=co15) ?_).2.2;exact (by (with_reducible repeat (first|apply Kd.a_Q|apply Kd.a_M|apply Kd.a_P));exact (Kd.a_V (Kd.a_O (p:=⟨c_J,0,none⟩) (Kd.a_R c_e.out b_Y.out (by decide)) (fun _ hk => hk.2) (.slice Ao15 t110.length co15)) (fun _ h_ => h_.1))));(case side2 => exact (Kd.a_B c_e.out).2.1);rintro e w17 ⟨v116,rfl,ho0,hb⟩;refine ⟨_,rfl,?_⟩;have c_K:=a_a.mk (Kd.a_0 (Kd.c_D ho0 (Kd.R_lt (by (with_reducible repeat (first|apply Kd.a_Q|apply Kd.a_M|apply Kd.a_P));exact (Kd.a_V (Kd.a_O (p:=⟨c_J,0,none⟩) (Kd.a_R c_e.out b_Y.out (by decide)) (fun _ hk => hk.2) (.slice Ao15 t110.length co15)) (fun _ h_ => h_.1))))) (a_r (by repeat (first|(with_reducible first|exact HB.out|apply a_e|apply a_c|apply a_g|refine a_d ?_ c_A.out)|exact HB.out))));replace c_e:=a_a.mk (Kd.b_P (by (with_reducible repeat (first|apply Kd.a_Q|apply Kd.a_M|apply Kd.a_P));exact (Kd.a_V (Kd.a_O (p:=⟨c_J,0,none⟩) (Kd.a_R c_e.out b_Y.out (by decide)) (fun _ hk => hk.2) (.slice Ao15 t110.length co15)) (fun _ h_ => h_.1))) (Kd.b_6 ho0) hb);replace b_Y:=a_a.mk (a_b (g:=c_J) (o:=.cells #[.slice Ao15 t110.length co15] 26 (0,0)) (by (with_reducible repeat (first|refine a_o ?_ _|refine a_m ?_|refine a_p ?_ _));refine a_D (cs:=#[.slice none 0 0]) ?_ 0 _ rfl;(with_reducible repeat (first|refine a_o ?_ _|refine a_m ?_|refine a_p ?_ _));exact b_Y.out) hb);replace HB:=a_a.mk (a_i (by repeat (first|(with_reducible first|exact HB.out|apply a_e|apply a_c|apply a_g|refine a_d ?_ c_A.out)|exact HB.out)) hb);(try clear hb);(try clear hb2);(try clear hk);(try clear hi);(try clear ho0))|((with_reducible refine a_u (N:=3) rfl ?_);(try (refine b_r (by rfl) ?_;dsimp only));refine a_t ?hg (N:=3) ?hd (cs:=#[.slice none 0 0]) (t:=26) ?hr ?_;(case hd => rfl);(case hg => rfl);(case hr => first|(go_simp;done)|(go_simp;rfl));intro c_B hg w18 hbox hb;have c_i:=a_a.mk (hbox);have j_P:=a_a.mk ((by rw [hg];exact (a_r (by repeat (first|(with_reducible first|exact HB.out|apply a_e|apply a_c|apply a_g|refine a_d ?_ c_A.out)|exact HB.out))) : w.heap.size ≤ c_B));have d_o:=a_a.mk ((by rw [hg];exact (a_r (by repeat (first|(with_reducible first|exact HB.out|apply a_e|apply a_c|apply a_g|refine a_d ?_ c_A.out)|exact HB.out))) : w.heap.size ≤ c_B));have e_h:=a_a.mk ((by rw [hg];exact Nat.ne_of_lt (a_k (bup_ b_Y.out)) : c_J ≠ c_B));have f_s:=a_a.mk ((by rw [hg];exact Nat.ne_of_gt (a_k (bup_ b_Y.out)) : c_B ≠ c_J));replace c_e:=a_a.mk (Kd.a_G (rup_ c_e.out) hb);replace c_K:=a_a.mk (Kd.a_G (rup_ c_K.out) hb);replace b_Y:=a_a.mk (a_b (bup_ b_Y.out) hb);replace HB:=a_a.mk (a_i (by repeat (first|(with_reducible first|exact HB.out|apply a_e|apply a_c|apply a_g|refine a_d ?_ c_A.out)|exact HB.out)) hb);clear hb hbox hg;obtain ⟨Ao19,co19,eo19⟩:=Kd.a_W c_K.out;subst eo19;have j_Q:=f_s.out;have j_R:=e_h.out;have f_t : w18.cell? ⟨c_B,0,none⟩ = some (.slice none 0 0):=(a_h c_i.out 0).trans rfl;have f_u:=a_f c_i.out 0)|((with_reducible refine a_x (f:=10) rfl ?_);refine a_Y (some 24) rfl rfl Tryd.func10 (by kernel_rfl) rfl #[.agg #[.slice Ao19 t115.length co19],.int .i64 2,.int .i64 0] rfl (by (try simp only [List.map_toArray,List.map_cons,List.map_nil]);first|done|rfl|(simp only [List.length_drop,List.length_take];rfl)) ?_;(with_reducible refine (a_H.calls k _ _ t115 2 0 t121 t124 t125 _ ?side1 ?side2 A3.out).mono ?_);(case side1 => refine (Kd.a_B (e:=32) (base:=w.heap.size) (ok:=fun k_ => (True ∧ some k_ ≠ (.slice Ao15 t110.length co15 : Value).ownBlock)) (n:=t115.length) (c:=co19) ?_).2.2;exact (by (with_reducible repeat (first|apply Kd.a_Q|apply Kd.a_M|apply Kd.a_P));exact (Kd.a_V (Kd.a_O (p:=⟨c_B,0,none⟩) (Kd.a_R c_K.out c_i.out (by decide)) (fun _ hk => hk.2) (.slice Ao19 t115.length co19)) (fun _ h_ => h_.1))));(case side2 => exact (Kd.a_B c_K.out).2.1);rintro e w22 ⟨v122,rfl,ho0,hb⟩;refine ⟨_,rfl,?_⟩;have c_8:=a_a.mk (Kd.a_0 (Kd.c_D (Kd.c_D ho0 (Kd.R_lt (by (with_reducible repeat (first|apply Kd.a_Q|apply Kd.a_M|apply Kd.a_P));exact (Kd.a_V (Kd.a_O (p:=⟨c_B,0,none⟩) (Kd.a_R c_e.out c_i.out (by decide)) (fun _ hk => hk.2) (.slice Ao19 t115.length co19)) (fun _ h_ => h_.1))))) (Kd.R_lt (by (with_reducible repeat (first|apply Kd.a_Q|apply Kd.a_M|apply Kd.a_P));exact (Kd.a_V (Kd.a_O (p:=⟨c_B,0,none⟩) (Kd.a_R c_K.out c_i.out (by decide)) (fun _ hk => hk.2) (.slice Ao19 t115.length co19)) (fun _ h_ => h_.1))))) (a_r (by repeat (first|(with_reducible first|exact HB.out|apply a_e|apply a_c|apply a_g|refine a_d ?_ c_A.out|refine a_d ?_ d_o.out)|exact HB.out))));replace c_e:=a_a.mk (Kd.b_P (by (with_reducible repeat (first|apply Kd.a_Q|apply Kd.a_M|apply Kd.a_P));exact (Kd.a_V (Kd.a_O (p:=⟨c_B,0,none⟩) (Kd.a_R c_e.out c_i.out (by decide)) (fun _ hk => hk.2) (.slice Ao19 t115.length co19)) (fun _ h_ => h_.1))) (Kd.b_6 ho0) hb);replace c_K:=a_a.mk (Kd.b_P (by (with_reducible repeat (first|apply Kd.a_Q|apply Kd.a_M|apply Kd.a_P));exact (Kd.a_V (Kd.a_O (p:=⟨c_B,0,none⟩) (Kd.a_R c_K.out c_i.out (by decide)) (fun _ hk => hk.2) (.slice Ao19 t115.length co19)) (fun _ h_ => h_.1))) (Kd.b_6 ho0) hb);replace b_Y:=a_a.mk (a_b (g:=c_J) (o:=.cells #[.slice Ao15 t110.length co15] 26 (0,0)) (by (with_reducible repeat (first|refine a_o ?_ _|refine a_m ?_|refine a_p ?_ _));refine a_v ?_ e_h.out _;(with_reducible repeat (first|refine a_o ?_ _|refine a_m ?_|refine a_p ?_ _));exact b_Y.out) hb);replace c_i:=a_a.mk (a_b (g:=c_B) (o:=.cells #[.slice Ao19 t115.length co19] 26 (0,0)) (by (with_reducible repeat (first|refine a_o ?_ _|refine a_m ?_|refine a_p ?_ _));refine a_D (cs:=#[.slice none 0 0]) ?_ 0 _ rfl;(with_reducible repeat (first|refine a_o ?_ _|refine a_m ?_|refine a_p ?_ _));exact c_i.out) hb);replace HB:=a_a.mk (a_i (by repeat (first|(with_reducible first|exact HB.out|apply a_e|apply a_c|apply a_g|refine a_d ?_ c_A.out|refine a_d ?_ d_o.out)|exact HB.out)) hb);(try clear hb);(try clear hb2);(try clear hk);(try clear hi);(try clear ho0))|((with_reducible refine a_u (N:=6) rfl ?_);(try (refine b_r (by rfl) ?_;dsimp only));refine a_t ?hg (N:=6) ?hd (cs:=#[.slice none 0 0]) (t:=26) ?hr ?_;(case hd => rfl);(case hg => rfl);(case hr => first|(go_simp;done)|(go_simp;rfl));intro c_m hg w23 hbox hb;have c_v:=a_a.mk (hbox);have j_S:=a_a.mk ((by rw [hg];exact (a_r (by repeat (first|(with_reducible first|exact HB.out|apply a_e|apply a_c|apply a_g|refine a_d ?_ c_A.out|refine a_d ?_ d_o.out)|exact HB.out))) : w.heap.size ≤ c_m));have e_W:=a_a.mk ((by rw [hg];exact (a_r (by repeat (first|(with_reducible first|exact HB.out|apply a_e|apply a_c|apply a_g|refine a_d ?_ c_A.out|refine a_d ?_ d_o.out)|exact HB.out))) : w.heap.size ≤ c_m));have e_i:=a_a.mk ((by rw [hg];exact Nat.ne_of_lt (a_k (bup_ b_Y.out)) : c_J ≠ c_m));have f_v:=a_a.mk ((by rw [hg];exact Nat.ne_of_gt (a_k (bup_ b_Y.out)) : c_m ≠ c_J));have e_j:=a_a.mk ((by rw [hg];exact Nat.ne_of_lt (a_k (bup_ c_i.out)) : c_B ≠ c_m));have f_w:=a_a.mk ((by rw [hg];exact Nat.ne_of_gt (a_k (bup_ c_i.out)) : c_m ≠ c_B));replace c_e:=a_a.mk (Kd.a_G (rup_ c_e.out) hb);replace c_K:=a_a.mk (Kd.a_G (rup_ c_K.out) hb);replace c_8:=a_a.mk (Kd.a_G (rup_ c_8.out) hb);replace b_Y:=a_a.mk (a_b (bup_ b_Y.out) hb);replace c_i:=a_a.mk (a_b (bup_ c_i.out) hb);replace HB:=a_a.mk (a_i (by repeat (first|(with_reducible first|exact HB.out|apply a_e|apply a_c|apply a_g|refine a_d ?_ c_A.out|refine a_d ?_ d_o.out)|exact HB.out)) hb);clear hb hbox hg;obtain ⟨Ao24,co24,eo24⟩:=Kd.a_W c_8.out;subst eo24;have j_T:=f_v.out;have j_U:=e_i.out;have h_M:=f_w.out;have h_N:=e_j.out;have f_x : w23.cell? ⟨c_m,0,none⟩ = some (.slice none 0 0):=(a_h c_v.out 0).trans rfl;have f_y:=a_f c_v.out 0)|((with_reducible refine a_x (f:=10) rfl ?_);refine a_Y (some 30) rfl rfl Tryd.func10 (by kernel_rfl) rfl #[.agg #[.slice Ao24 t121.length co24],.int .i64 3,.int .i64 0] rfl (by (try simp only [List.map_toArray,List.map_cons,List.map_nil]);first|done|rfl|(simp only [List.length_drop,List.length_take];rfl)) ?_;(with_reducible refine (a_H.calls k _ _ t121 3 0 t127 t130 t131 _ ?side1 ?side2 A4.out).mono ?_);(case side1 => refine (Kd.a_B (e:=32) (base:=w.heap.size) (ok:=fun k_ => ((True ∧ some k_ ≠ (.slice Ao15 t110.length co15 : Value).ownBlock) ∧ some k_ ≠ (.slice Ao19 t115.length co19 : Value).ownBlock)) (n:=t121.length) (c:=co24) ?_).2.2;exact (by (with_reducible repeat (first|apply Kd.a_Q|apply Kd.a_M|apply Kd.a_P));exact (Kd.a_V (Kd.a_O (p:=⟨c_m,0,none⟩) (Kd.a_R c_8.out c_v.out (by decide)) (fun _ hk => hk.2) (.slice Ao24 t121.length co24)) (fun _ h_ => h_.1))));(case side2 => exact (Kd.a_B c_8.out).2.1);rintro e w28 ⟨v128,rfl,ho0,hb⟩;refine ⟨_,rfl,?_⟩;have g_q:=a_a.mk (Kd.a_0 (Kd.c_D (Kd.c_D (Kd.c_D ho0 (Kd.R_lt (by (with_reducible repeat (first|apply Kd.a_Q|apply Kd.a_M|apply Kd.a_P));exact (Kd.a_V (Kd.a_O (p:=⟨c_m,0,none⟩) (Kd.a_R c_e.out c_v.out (by decide)) (fun _ hk => hk.2) (.slice Ao24 t121.length co24)) (fun _ h_ => h_.1))))) (Kd.R_lt (by (with_reducible repeat (first|apply Kd.a_Q|apply Kd.a_M|apply Kd.a_P));exact (Kd.a_V (Kd.a_O (p:=⟨c_m,0,none⟩) (Kd.a_R c_K.out c_v.out (by decide)) (fun _ hk => hk.2) (.slice Ao24 t121.length co24)) (fun _ h_ => h_.1))))) (Kd.R_lt (by (with_reducible repeat (first|apply Kd.a_Q|apply Kd.a_M|apply Kd.a_P));exact (Kd.a_V (Kd.a_O (p:=⟨c_m,0,none⟩) (Kd.a_R c_8.out c_v.out (by decide)) (fun _ hk => hk.2) (.slice Ao24 t121.length co24)) (fun _ h_ => h_.1))))) (a_r (by repeat (first|(with_reducible first|exact HB.out|apply a_e|apply a_c|apply a_g|refine a_d ?_ c_A.out|refine a_d ?_ d_o.out|refine a_d ?_ e_W.out)|exact HB.out))));replace c_e:=a_a.mk (Kd.b_P (by (with_reducible repeat (first|apply Kd.a_Q|apply Kd.a_M|apply Kd.a_P));exact (Kd.a_V (Kd.a_O (p:=⟨c_m,0,none⟩) (Kd.a_R c_e.out c_v.out (by decide)) (fun _ hk => hk.2) (.slice Ao24 t121.length co24)) (fun _ h_ => h_.1))) (Kd.b_6 ho0) hb);replace c_K:=a_a.mk (Kd.b_P (by (with_reducible repeat (first|apply Kd.a_Q|apply Kd.a_M|apply Kd.a_P));exact (Kd.a_V (Kd.a_O (p:=⟨c_m,0,none⟩) (Kd.a_R c_K.out c_v.out (by decide)) (fun _ hk => hk.2) (.slice Ao24 t121.length co24)) (fun _ h_ => h_.1))) (Kd.b_6 ho0) hb);replace c_8:=a_a.mk (Kd.b_P (by (with_reducible repeat (first|apply Kd.a_Q|apply Kd.a_M|apply Kd.a_P));exact (Kd.a_V (Kd.a_O (p:=⟨c_m,0,none⟩) (Kd.a_R c_8.out c_v.out (by decide)) (fun _ hk => hk.2) (.slice Ao24 t121.length co24)) (fun _ h_ => h_.1))) (Kd.b_6 ho0) hb);replace b_Y:=a_a.mk (a_b (g:=c_J) (o:=.cells #[.slice Ao15 t110.length co15] 26 (0,0)) (by (with_reducible repeat (first|refine a_o ?_ _|refine a_m ?_|refine a_p ?_ _));refine a_v ?_ e_i.out _;(with_reducible repeat (first|refine a_o ?_ _|refine a_m ?_|refine a_p ?_ _));exact b_Y.out) hb);replace c_i:=a_a.mk (a_b (g:=c_B) (o:=.cells #[.slice Ao19 t115.length co19] 26 (0,0)) (by (with_reducible repeat (first|refine a_o ?_ _|refine a_m ?_|refine a_p ?_ _));refine a_v ?_ e_j.out _;(with_reducible repeat (first|refine a_o ?_ _|refine a_m ?_|refine a_p ?_ _));exact c_i.out) hb);replace c_v:=a_a.mk (a_b (g:=c_m) (o:=.cells #[.slice Ao24 t121.length co24] 26 (0,0)) (by (with_reducible repeat (first|refine a_o ?_ _|refine a_m ?_|refine a_p ?_ _));refine a_D (cs:=#[.slice none 0 0]) ?_ 0 _ rfl;(with_reducible repeat (first|refine a_o ?_ _|refine a_m ?_|refine a_p ?_ _));exact c_v.out) hb);replace HB:=a_a.mk (a_i (by repeat (first|(with_reducible first|exact HB.out|apply a_e|apply a_c|apply a_g|refine a_d ?_ c_A.out|refine a_d ?_ d_o.out|refine a_d ?_ e_W.out)|exact HB.out)) hb);(try clear hb);(try clear hb2);(try clear hk);(try clear hi);(try clear ho0))|((with_reducible refine a_u (N:=9) rfl ?_);(try (refine b_r (by rfl) ?_;dsimp only));refine a_t ?hg (N:=9) ?hd (cs:=#[.slice none 0 0]) (t:=26) ?hr ?_;(case hd => rfl);(case hg => rfl);(case hr => first|(go_simp;done)|(go_simp;rfl));intro d_p hg w29 hbox hb;have g_r:=a_a.mk (hbox);have j_V:=a_a.mk ((by rw [hg];exact (a_r (by repeat (first|(with_reducible first|exact HB.out|apply a_e|apply a_c|apply a_g|refine a_d ?_ c_A.out|refine a_d ?_ d_o.out|refine a_d ?_ e_W.out)|exact HB.out))) : w.heap.size ≤ d_p));have h_O:=a_a.mk ((by rw [hg];exact (a_r (by repeat (first|(with_reducible first|exact HB.out|apply a_e|apply a_c|apply a_g|refine a_d ?_ c_A.out|refine a_d ?_ d_o.out|refine a_d ?_ e_W.out)|exact HB.out))) : w.heap.size ≤ d_p));have f_z:=a_a.mk ((by rw [hg];exact Nat.ne_of_lt (a_k (bup_ b_Y.out)) : c_J ≠ d_p));have f_A:=a_a.mk ((by rw [hg];exact Nat.ne_of_gt (a_k (bup_ b_Y.out)) : d_p ≠ c_J));have f_B:=a_a.mk ((by rw [hg];exact Nat.ne_of_lt (a_k (bup_ c_i.out)) : c_B ≠ d_p));have f_C:=a_a.mk ((by rw [hg];exact Nat.ne_of_gt (a_k (bup_ c_i.out)) : d_p ≠ c_B));have f_D:=a_a.mk ((by rw [hg];exact Nat.ne_of_lt (a_k (bup_ c_v.out)) : c_m ≠ d_p));have f_E:=a_a.mk ((by rw [hg];exact Nat.ne_of_gt (a_k (bup_ c_v.out)) : d_p ≠ c_m));replace c_e:=a_a.mk (Kd.a_G (rup_ c_e.out) hb);replace c_K:=a_a.mk (Kd.a_G (rup_ c_K.out) hb);replace c_8:=a_a.mk (Kd.a_G (rup_ c_8.out) hb);replace g_q:=a_a.mk (Kd.a_G (rup_ g_q.out) hb);replace b_Y:=a_a.mk (a_b (bup_ b_Y.out) hb);replace c_i:=a_a.mk (a_b (bup_ c_i.out) hb);replace c_v:=a_a.mk (a_b (bup_ c_v.out) hb);replace HB:=a_a.mk (a_i (by repeat (first|(with_reducible first|exact HB.out|apply a_e|apply a_c|apply a_g|refine a_d ?_ c_A.out|refine a_d ?_ d_o.out|refine a_d ?_ e_W.out)|exact HB.out)) hb);clear hb hbox hg;obtain ⟨Ao30,co30,eo30⟩:=Kd.a_W g_q.out;subst eo30;have j_W:=f_A.out;have j_X:=f_z.out;have h_P:=f_C.out;have h_Q:=f_B.out;have h_R:=f_E.out;have h_S:=f_D.out;have g_s : w29.cell? ⟨d_p,0,none⟩ = some (.slice none 0 0):=(a_h g_r.out 0).trans rfl;have g_t:=a_f g_r.out 0;have h_T : w29.cell? ⟨c_m,0,none⟩ = some (.slice Ao24 t121.length co24):=(a_h c_v.out 0).trans rfl;have h_U:=a_f c_v.out 0;have p133 : 0 ≤ (0 : Int):=(by omega);have q133 : 0 < (t121.length : Int):=of_decide_eq_true (by first|(with_reducible assumption)|assumption);obtain ⟨ad133,e133,d_T⟩:=Kd.b_X (Kd.a_B c_8.out).2.2 0 p133 q133;cases e133;have qi133 : (0 < t121.length) = True:=eq_true (by omega);(try rw [show ((0 : Int)).toNat = 0 from rfl] at d_T);(try rw [Addr.add_zero'] at d_T);have hn133_0 : ad133.block ≠ d_p:=Kd.f_j (Kd.R_ne c_8.out g_r.out (by decide));replace d_T:=(cell_far (p:=⟨d_p,0,none⟩) (by first|(rw [add_block];exact hn133_0)|(show (Addr.add _ _).block ≠ _;rw [add_block];exact hn133_0)|exact hn133_0) (.slice Ao30 t127.length co30)).trans d_T;clear hn133_0;replace p133:=eq_true p133;replace q133:=eq_true q133))
 go_ret
 exact ⟨by first|rfl|(simp [a_y,a_z] <;> rfl)|(simp [*, a_y,a_z] <;> rfl),by repeat (first|(with_reducible first|exact HB.out|apply a_e|apply a_c|apply a_g|refine a_d ?_ c_A.out|refine a_d ?_ d_o.out|refine a_d ?_ e_W.out|refine a_d ?_ h_O.out)|exact HB.out)⟩
end Go.Proofs.YtkhbffjfclepfaaDoor.Q
end
section
namespace Go.Proofs.YtkhbffjfclepfaaDoor.Q
open Go.RowKit Go.Proofs.YtkhbffjfclepfaaDoorW.PrintWords Go.Proofs.YtkhbffjfclepfaaDoorW.PrintLast Go.Proofs.YtkhbffjfclepfaaDoorW.PrintMore
set_option linter.unusedVariables false
set_option linter.unusedSimpArgs false
def a_A.l0 : Nat → Int → List Int → Int → Int → Option (Int)
 | 0,_,_,_,_ => none
 | k + 1,x2,x9,x10,x11 => if x11 < x10 then (if 0 ≤ x11 then (if x11 < (x9.length : Int) then (a_A.l0 k (Go.bits .or .u32 x2 (rd x9 x11)) x9 x10 (wrap64 (x11 + 1))) else (none)) else (none)) else (some x2)
def a_A.f (k : Nat) (l0_0 : List Int) : Option (Int):=(a_n.f k l0_0).bind fun t135 => (if t135 = 0 then (a_A.l0 k 0 l0_0 (l0_0.length : Int) 0) else (some 0))
theorem a_A.b_4 : ∀ k,(∀ y0 y1 y2 y3,LeO (a_A.l0 k y0 y1 y2 y3) (a_A.l0 (k + 1) y0 y1 y2 y3))
 | 0 => fun _ _ _ _ r h => by simp [a_A.l0] at h
 | k + 1 => by
  have ih0:=a_A.b_4 k
  ·intro y0 y1 y2 y3
   unfold a_A.l0
   repeat' first
   | (with_reducible exact ih0 _ _ _ _)
   | (with_reducible exact a_n.mono _ _)
   | (with_reducible exact LeO.refl _)
   | (with_reducible exact LeO.none _)
   | (with_reducible refine LeO.ite ?_ ?_)
   | (with_reducible refine LeO.bind ?_ (fun _ => ?_))
   | exact ih0 _ _ _ _
   | exact a_n.mono _ _
   | exact LeO.none _
   | refine LeO.ite ?_ ?_
   | refine LeO.bind ?_ (fun _ => ?_)
theorem a_A.mono : ∀ a0 k,LeO (a_A.f k a0) (a_A.f (k + 1) a0):=by
 intro a0 k
 have ih0:=a_A.b_4 k
 unfold a_A.f
 repeat' first
  | (with_reducible exact ih0 _ _ _ _)
  | (with_reducible exact a_n.mono _ _)
  | (with_reducible exact LeO.refl _)
  | (with_reducible exact LeO.none _)
  | (with_reducible refine LeO.ite ?_ ?_)
  | (with_reducible refine LeO.bind ?_ (fun _ => ?_))
  | exact ih0 _ _ _ _
  | exact a_n.mono _ _
  | exact LeO.none _
  | refine LeO.ite ?_ ?_
  | refine LeO.bind ?_ (fun _ => ?_)
set_option maxHeartbeats 8000000 in
set_option maxRecDepth 100000 in
theorem a_A.calls (k : Nat) (A0_0 : Option Addr) (c0_0 : Nat) (l0_0 : List Int) (r : Int) (w : World) (hr0_0 : Kd.C (Kd.int .u32) w A0_0 l0_0.length l0_0) (hc0_0 : l0_0.length ≤ c0_0) (h : a_A.f k l0_0 = some r) :
 Calls Tryd.prog 6 #[.agg #[.slice A0_0 l0_0.length c0_0]] w fun e w' => e = .returned (.int .u32 r) ∧ Below w.heap.size w w':=by
 have hu26:=Tryd.underlying26
 have b_G:=a_a.mk hr0_0
 have b_U:=a_a.mk hc0_0
 clear hr0_0 hc0_0
 have HB:=a_a.mk (Below.refl w.heap.size w)
 have H : ((a_n.f k l0_0).bind fun t135 => (if t135 = 0 then (a_A.l0 k 0 l0_0 (l0_0.length : Int) 0) else (some 0))) = some r:=h
 clear h
 replace H:=Option.bind_eq_some_iff.mp H
 obtain ⟨t135,A20,H⟩:=H
 replace H : (if t135 = 0 then (a_A.l0 k 0 l0_0 (l0_0.length : Int) 0) else (some 0)) = some r:=H
 have A2:=a_a.mk A20
 clear A20
 by_cases c3 : t135 = 0
 rotate_left
 ·rw [if_neg c3] at H
  have c3b0 : (t135 == 0) = false:=beq_eq_false_iff_ne.mpr c3
  have c3b1 : (t135 != 0) = true:=bne_iff_ne.mpr c3
  obtain rfl:=Option.some.inj H
  go_enter Tryd.func6,Tryd.ntmps6
  go_wp2_with (first|((with_reducible refine a_u (N:=1) rfl ?_);refine a_t ?hg (N:=1) ?hd (cs:=#[.slice A0_0 l0_0.length c0_0]) (t:=26) ?hr ?_;(case hd => rfl);(case hg => rfl);(case hr => first|(go_simp;done)|(go_simp;rfl));intro d_U hg w11 hbox hb;have c_R:=a_a.mk (hbox);have h_V:=a_a.mk ((by rw [hg];exact (a_r (lup_ HB.out)) : w.heap.size ≤ d_U));have e_t:=a_a.mk ((by rw [hg];exact (a_r (lup_ HB.out)) : w.heap.size ≤ d_U));replace HB:=a_a.mk (a_i (lup_ HB.out) hb);clear hb hbox hg;have d_R : w11.cell? ⟨d_U,0,none⟩ = some (.slice A0_0 l0_0.length c0_0):=(a_h c_R.out 0).trans rfl;have d_S:=a_f c_R.out 0)|((with_reducible refine a_x (f:=12) rfl ?_);refine a_Y (some 6) rfl rfl Tryd.func12 (by kernel_rfl) rfl #[.agg #[.slice A0_0 l0_0.length c0_0]] rfl (by (try simp only [List.map_toArray,List.map_cons,List.map_nil]);first|done|rfl|(simp only [List.length_drop,List.length_take];rfl)) ?_;(with_reducible refine (a_n.calls k _ _ l0_0 t135 _ ?side1 ?side2 A2.out).mono ?_);(case side1 => repeat (first|exact (Kd.a_K b_G.out HB.out)|(with_reducible refine Kd.a_4 ?_ _)|(with_reducible refine Kd.a_6 ?_ _)|(with_reducible refine Kd.b_a ?_)));(case side2 => exact b_U.out);rintro e w13 ⟨rfl,hb⟩;refine ⟨_,rfl,?_⟩;replace c_R:=a_a.mk (a_b (bup_ c_R.out) hb);replace HB:=a_a.mk (a_i (by repeat (first|(with_reducible first|exact HB.out|apply a_e|apply a_c|apply a_g|refine a_d ?_ e_t.out)|exact HB.out)) hb);(try clear hb);(try clear hb2);(try clear hk);(try clear hi)))
  go_ret
  exact ⟨by first|rfl|(simp [a_y,a_z] <;> rfl)|(simp [*, a_y,a_z] <;> rfl),by repeat (first|(with_reducible first|exact HB.out|apply a_e|apply a_c|apply a_g|refine a_d ?_ e_t.out)|exact HB.out)⟩
 rw [if_pos c3] at H
 have c3b0 : (t135 == 0) = true:=beq_iff_eq.mpr c3
 have c3b1 : (t135 != 0) = false:=bne_eq_false_iff_eq.mpr c3
 clear c3
 have H':=a_a.mk H
 clear H
 go_enter Tryd.func6,Tryd.ntmps6
 go_wp2_with (first|((with_reducible refine a_u (N:=1) rfl ?_);refine a_t ?hg (N:=1) ?hd (cs:=#[.slice A0_0 l0_0.length c0_0]) (t:=26) ?hr ?_;(case hd => rfl);(case hg => rfl);(case hr => first|(go_simp;done)|(go_simp;rfl));intro d_U hg w4 hbox hb;have c_R:=a_a.mk (hbox);have h_V:=a_a.mk ((by rw [hg];exact (a_r (lup_ HB.out)) : w.heap.size ≤ d_U));have e_t:=a_a.mk ((by rw [hg];exact (a_r (lup_ HB.out)) : w.heap.size ≤ d_U));replace HB:=a_a.mk (a_i (lup_ HB.out) hb);clear hb hbox hg;have e_J : w4.cell? ⟨d_U,0,none⟩ = some (.slice A0_0 l0_0.length c0_0):=(a_h c_R.out 0).trans rfl;have e_K:=a_f c_R.out 0)|((with_reducible refine a_x (f:=12) rfl ?_);refine a_Y (some 6) rfl rfl Tryd.func12 (by kernel_rfl) rfl #[.agg #[.slice A0_0 l0_0.length c0_0]] rfl (by (try simp only [List.map_toArray,List.map_cons,List.map_nil]);first|done|rfl|(simp only [List.length_drop,List.length_take];rfl)) ?_;(with_reducible refine (a_n.calls k _ _ l0_0 t135 _ ?side1 ?side2 A2.out).mono ?_);(case side1 => repeat (first|exact (Kd.a_K b_G.out HB.out)|(with_reducible refine Kd.a_4 ?_ _)|(with_reducible refine Kd.a_6 ?_ _)|(with_reducible refine Kd.b_a ?_)));(case side2 => exact b_U.out);rintro e w6 ⟨rfl,hb⟩;refine ⟨_,rfl,?_⟩;replace c_R:=a_a.mk (a_b (bup_ c_R.out) hb);replace HB:=a_a.mk (a_i (by repeat (first|(with_reducible first|exact HB.out|apply a_e|apply a_c|apply a_g|refine a_d ?_ e_t.out)|exact HB.out)) hb);(try clear hb);(try clear hb2);(try clear hk);(try clear hi);have e_f : w6.cell? ⟨d_U,0,none⟩ = some (.slice A0_0 l0_0.length c0_0):=(a_h c_R.out 0).trans rfl;have e_g:=a_f c_R.out 0))
 go_loopg [2,11] k (fun kq v2 v11 w' => ∃ (x2_1 : Int) (x11_1 : Int),v2 = .int .u32 x2_1 ∧ v11 = .int .i64 x11_1 ∧ a_a (a_A.l0 kq x2_1 l0_0 (l0_0.length : Int) x11_1 = some r) ∧ a_a (kq ≤ k) ∧ a_a (w'.heap[d_U]? = some (.cells #[(.slice A0_0 l0_0.length c0_0)] 26 (0,0))) ∧ a_a (Below w.heap.size w w'))
 case atStart => exact ⟨(0),(0),(by first|rfl|(simp;done)|(simp [*];done)),(by first|rfl|(simp;done)|(simp [*];done)),H',⟨Nat.le_refl _⟩,⟨by (with_reducible repeat (first|refine a_o ?_ _|refine a_m ?_|refine a_p ?_ _));exact c_R.out⟩,⟨by repeat (first|(with_reducible first|exact HB.out|apply a_e|apply a_c|apply a_g|refine a_d ?_ e_t.out)|exact HB.out)⟩⟩
 case round =>
  clear H'
  try clear c1
  try clear p2
  try clear c3
  try clear c3b0
  try clear c3b1
  try clear c6
  try clear e_J
  try clear e_f
  try clear e_K
  try clear e_g
  obtain ⟨x2_1,x11_1,rfl,rfl,HA,HK1,c_R,HB⟩:=hrel
  cases gk with
  | zero => exact absurd HA.out (by simp [a_A.l0])
  | succ k1 =>
   have H:=HA.out
   clear HA
   simp only [a_A.l0] at H
   by_cases c8 : x11_1 < (l0_0.length : Int)
   rotate_left
   ·rw [if_neg c8] at H
    have c8b0 : decide (x11_1 < (l0_0.length : Int)) = false:=decide_eq_false c8
    clear c8
    obtain rfl:=Option.some.inj H
    go_wp2
    go_ret
    exact ⟨by first|rfl|(simp [a_y,a_z] <;> rfl)|(simp [*, a_y,a_z] <;> rfl),by repeat (first|(with_reducible first|exact HB.out|apply a_e|apply a_c|apply a_g|refine a_d ?_ e_t.out)|exact HB.out)⟩
   rw [if_pos c8] at H
   have c8b0 : decide (x11_1 < (l0_0.length : Int)) = true:=decide_eq_true c8
   clear c8
   by_cases c9 : 0 ≤ x11_1
   rotate_left
   ·rw [if_neg c9] at H
    exact absurd H (by simp)
   rw [if_pos c9] at H
   have c9b0 : decide (0 ≤ x11_1) = true:=decide_eq_true c9
   clear c9
   by_cases c10 : x11_1 < (l0_0.length : Int)
   rotate_left
   ·rw [if_neg c10] at H
    exact absurd H (by simp)
   rw [if_pos c10] at H
   have c10b0 : decide (x11_1 < (l0_0.length : Int)) = true:=decide_eq_true c10
   clear c10
   have H':=a_a.mk H
   clear H
   have p136 : 0 ≤ (x11_1 : Int):=of_decide_eq_true (by first|(with_reducible assumption)|assumption)
   have q136 : x11_1 < (l0_0.length : Int):=of_decide_eq_true (by first|(with_reducible assumption)|assumption)
   obtain ⟨ad136,e136,e_u⟩:=Kd.b_X b_G.out x11_1 p136 q136
   cases e136
   replace e_u:=(HB.out.cell (World.block_lt_of_cell? w _ e_u)).trans e_u
   replace p136:=eq_true p136
   replace q136:=eq_true q136
   go_wp2
   go_roundg k1
   case measure => have:=HK1.out;omega
   case rel => exact ⟨(Go.bits .or .u32 x2_1 (rd l0_0 x11_1)),(wrap64 (x11_1 + 1)),(by first|rfl|(simp;done)|(simp [*];done)),(by first|rfl|(simp;done)|(simp [*];done)),H',⟨by have:=HK1.out;omega⟩,⟨by (with_reducible repeat (first|refine a_o ?_ _|refine a_m ?_|refine a_p ?_ _));exact c_R.out⟩,⟨by repeat (first|(with_reducible first|exact HB.out|apply a_e|apply a_c|apply a_g|refine a_d ?_ e_t.out)|exact HB.out)⟩⟩
end Go.Proofs.YtkhbffjfclepfaaDoor.Q
end
section
namespace Go.Proofs.YtkhbffjfclepfaaDoor.Q
open Go.RowKit Go.Proofs.YtkhbffjfclepfaaDoorW.PrintWords Go.Proofs.YtkhbffjfclepfaaDoorW.PrintLast Go.Proofs.YtkhbffjfclepfaaDoorW.PrintMore
set_option linter.unusedVariables false
set_option linter.unusedSimpArgs false
theorem d_f {k : IntKind} {e : Nat} {W : World} {B : Nat} {ok : Nat → Prop} {g m cap : Nat} {xs : List Int} (h : Kd.R (Kd.int k) e W B ok (.slice (some ⟨g,0,none⟩) m cap) xs) (j : Nat) (hj : m ≤ j) (u : Value) :
 Kd.R (Kd.int k) e (W.setCell ⟨g,j,none⟩ u) B ok (.slice (some ⟨g,0,none⟩) m cap) xs:=by
 obtain ⟨h0,inner,⟨hl,hh⟩,hr⟩:=h
 refine ⟨h0,inner,⟨hl,?_⟩,hr⟩
 rcases hh with ⟨hv,_⟩ | ⟨g',cap',cur,hv,hb,hg,hn,hm,hs,ht⟩
 ·cases hv
 injection hv with ha hn' hc'
 injection ha with ha
 injection ha with ha
 subst ha hc'
 have hsz : (Kd.int k).sz = 1:=rfl
 refine .inr ⟨g,cap,cur.setIfInBounds j u,by rw [hn'],hb,e_n hg j u,hn,hm,by simpa using hs,?_⟩
 rw [← ht]
 rw [Array.toList_setIfInBounds,List.take_set]
 rw [List.set_eq_of_length_le]
 rw [hsz] at *
 rw [List.length_take]
 omega
theorem e_A {k : IntKind} {e : Nat} {W : World} {B : Nat} {ok : Nat → Prop} {g m cap : Nat} {xs : List Int} (h : Kd.R (Kd.int k) e W B ok (.slice (some ⟨g,0,none⟩) m cap) xs) (j : Nat) (hj : j < cap) : (W.cell? ⟨g,j,none⟩).isSome = true ∧ W.frozen? ⟨g,j,none⟩ = false:=by
 obtain ⟨h0,inner,⟨hl,hh⟩,hr⟩:=h
 rcases hh with ⟨hv,_⟩ | ⟨g',cap',cur,hv,hb,hg,hn,hm,hs,ht⟩
 ·cases hv
 injection hv with ha hn' hc'
 injection ha with ha
 injection ha with ha
 subst ha hc'
 have hsz : (Kd.int k).sz = 1:=rfl
 rw [hsz] at hs
 refine ⟨?_,a_f hg j⟩
 rw [a_h hg j]
 simp
 omega
set_option maxHeartbeats 2000000 in
theorem c_M.calls (g cap : Nat) (l : List Int) (m i : Nat) (B : Nat) (ok : Nat → Prop) (w : World) (hR : Kd.R (Kd.int .u32) 32 w B ok (.slice (some ⟨g,0,none⟩) (m + 1) cap) l) (hi : i < m + 1) (hBw : B ≤ w.heap.size) :
 Calls Tryd.prog 24 #[.slice (some ⟨g,0,none⟩) (m + 1) cap,.int .i64 i,.int .i64 ((i : Int) + 1)] w fun e w' => e = .returned (.slice (some ⟨g,0,none⟩) m cap) ∧ Kd.R (Kd.int .u32) 32 w' B ok (.slice (some ⟨g,0,none⟩) m cap) (l.eraseIdx i) ∧ w.grownBy w' (some g):=by
 have hcap:=(Kd.a_B hR).2.1
 have HR:=a_a.mk hR
 have d1 : ((i : Int) == (i : Int) + 1) = false:=beq_eq_false_iff_ne.mpr (by omega)
 have f1 : ((i : Int) ≤ (cap : Int)) = True:=eq_true (by omega)
 have f3 : ((i : Int) ≤ (i : Int) + 1) = True:=eq_true (by omega)
 have f7 : ((i : Int) ≤ (m : Int)) = True:=eq_true (by omega)
 have f11 : (i ≤ m) = True:=eq_true (by omega)
 have f8 : ((i : Int) + 1 ≤ (m : Int) + 1) = True:=eq_true (by omega)
 have f9 : ((m : Int) + 1 ≤ (cap : Int)) = True:=eq_true (by omega)
 have f10 : ((m : Int) ≤ (cap : Int)) = True:=eq_true (by omega)
 have f4 : (0 ≤ (i : Int)) = True:=eq_true (by omega)
 have f5 : (0 ≤ (i : Int) + 1) = True:=eq_true (by omega)
 have f6 : ((i : Int) + 1).toNat = i + 1:=by omega
 have HI:=a_a.mk hi
 have HBW:=a_a.mk hBw
 clear hBw hR
 have HCAP:=a_a.mk hcap
 by_cases hc : cap = i + 1
 ·have HC:=a_a.mk hc
  replace hc:=eq_true hc
  go_enter Tryd.func24,Tryd.ntmps24
  go_wp2
  go_region_law (refine Kd.c_O (Kd.int .u32) (w0:=w.drew) (W:=w.drew) B rfl (.tmp 22) (.tmp 25) 24 32 rfl Tryd.underlying24 rfl rfl rfl (by rw [if_pos HC.out]) (by omega) (Kd.a_P HR.out) HI.out (Below.refl _ _) HBW.out ?_;intro w1 ho1 hb1 hg1)
  have HO1:=a_a.mk ho1
  have HG1:=a_a.mk hg1
  have hcl : ∀ ty,(Builtin.clear_ #[24] ty #[.slice (some ⟨g,m,none⟩) (m + 1 - m) (cap - m)]).run Tryd.prog w1 = .ok (.tuple #[]) (w1.setCell ⟨g,m,none⟩ (.int .u32 0)):=by
   intro ty
   rw [show m + 1 - m = 1 by omega]
   exact Lib.run_clear_slice w1 24 32 ty (.int .u32 0) Tryd.underlying24 (fun _ => by kernel_rfl) rfl rfl g m 1 _ (by omega) (fun j hj => (e_A ho1 (m + j) (by have:=HCAP.out;omega)).1) (fun j hj => (e_A ho1 (m + j) (by have:=HCAP.out;omega)).2)
  rw [show m + 1 - m = 1 by omega] at hcl
  clear ho1 hb1 hg1
  go_wp2
  go_ret
  exact ⟨rfl,d_f HO1.out m (by simp) _,⟨HG1.out.os,HG1.out.tape,HG1.out.output,by have:=HG1.out.size;simpa [World.setCell] using this,fun k_ hk_ hne_ => (Below.heap_setCell _ _ _ k_ (fun e_ => hne_ (by rw [e_]))).trans (HG1.out.block k_ hk_ hne_)⟩⟩
 have HC:=a_a.mk hc
 go_enter Tryd.func24,Tryd.ntmps24
 go_wp2
 go_region_law (refine Kd.c_O (Kd.int .u32) (w0:=w.drew) (W:=w.drew) B rfl (.tmp 22) (.tmp 25) 24 32 rfl Tryd.underlying24 rfl rfl rfl (by rw [if_neg HC.out];show some (Addr.mk g (i + 1) none) = some (Addr.add ⟨g,0,none⟩ ((i + 1) * 1));simp [Addr.add]) (by omega) (Kd.a_P HR.out) HI.out (Below.refl _ _) HBW.out ?_;intro w1 ho1 hb1 hg1)
 have HO1:=a_a.mk ho1
 have HG1:=a_a.mk hg1
 have hcl : ∀ ty,(Builtin.clear_ #[24] ty #[.slice (some ⟨g,m,none⟩) (m + 1 - m) (cap - m)]).run Tryd.prog w1 = .ok (.tuple #[]) (w1.setCell ⟨g,m,none⟩ (.int .u32 0)):=by
  intro ty
  rw [show m + 1 - m = 1 by omega]
  exact Lib.run_clear_slice w1 24 32 ty (.int .u32 0) Tryd.underlying24 (fun _ => by kernel_rfl) rfl rfl g m 1 _ (by omega) (fun j hj => (e_A ho1 (m + j) (by have:=HCAP.out;omega)).1) (fun j hj => (e_A ho1 (m + j) (by have:=HCAP.out;omega)).2)
 rw [show m + 1 - m = 1 by omega] at hcl
 clear ho1 hb1 hg1
 go_wp2
 go_ret
 exact ⟨rfl,d_f HO1.out m (by simp) _,⟨HG1.out.os,HG1.out.tape,HG1.out.output,by have:=HG1.out.size;simpa [World.setCell] using this,fun k_ hk_ hne_ => (Below.heap_setCell _ _ _ k_ (fun e_ => hne_ (by rw [e_]))).trans (HG1.out.block k_ hk_ hne_)⟩⟩
end Go.Proofs.YtkhbffjfclepfaaDoor.Q
end
section
namespace Go.Proofs.YtkhbffjfclepfaaDoor.Q
open Go.RowKit Go.Proofs.YtkhbffjfclepfaaDoorW.PrintWords Go.Proofs.YtkhbffjfclepfaaDoorW.PrintLast Go.Proofs.YtkhbffjfclepfaaDoorW.PrintMore
set_option linter.unusedVariables false
set_option linter.unusedSimpArgs false
set_option maxHeartbeats 2000000 in
theorem b_9.same (gq ga gb : Nat) (a b : Int) (w : World)
 (ha : w.heap[ga]? = some (.cells #[.int .i64 a] 3 (0,0))) (hb : w.heap[gb]? = some (.cells #[.int .i64 b] 3 (0,0))) (he : a = b) :
 Calls Tryd.prog 23 #[.pointer (some ⟨gq,0,none⟩),.pointer (some ⟨ga,0,none⟩),.pointer (some ⟨gb,0,none⟩)] w fun e W' => e = .returned (.int .i64 2) ∧ ∃ n,W' = w.drewN n:=by
 have ca : w.cell? ⟨ga,0,none⟩ = some (.int .i64 a):=(a_h ha 0).trans rfl
 have cb : w.cell? ⟨gb,0,none⟩ = some (.int .i64 b):=(a_h hb 0).trans rfl
 clear ha hb
 have d1 : (a == b) = true:=beq_iff_eq.mpr he
 clear he
 go_enter Tryd.func23,Tryd.ntmps23
 go_wp2
 go_ret
 exact ⟨rfl,0,rfl⟩
set_option maxHeartbeats 4000000 in
theorem b_9.ok (gq ga gb : Nat) (l : List Int) (m : Nat) (a b : Nat) (v : Value) (base B0 : Nat) (w : World)
 (hq : w.heap[gq]? = some (.cells #[v] 26 (0,0))) (hR : Kd.R (Kd.int .u32) 32 w B0 (fun _ => True) v l) (hm : l.length = m + 1)
 (ha : w.heap[ga]? = some (.cells #[.int .i64 a] 3 (0,0))) (hb : w.heap[gb]? = some (.cells #[.int .i64 b] 3 (0,0)))
 (h1 : a < l.length) (h2 : b < l.length) (hl : l.length < 35184372088832) (hB0 : ∀ g,g = ga ∨ g = gb → g < B0) (hB0w : B0 ≤ w.heap.size) (hbB : base ≤ B0) (hBq : B0 ≤ gq) (hne : a ≠ b) :
 Calls Tryd.prog 23 #[.pointer (some ⟨gq,0,none⟩),.pointer (some ⟨ga,0,none⟩),.pointer (some ⟨gb,0,none⟩)] w fun e W' => e = .returned (.int .i64 0) ∧ Below base w W' ∧ (∀ k,k < w.heap.size → k ≠ gq → some k ≠ v.ownBlock → W'.heap[k]? = w.heap[k]?) ∧ ∃ v',W'.heap[gq]? = some (.cells #[v'] 26 (0,0)) ∧ Kd.R (Kd.int .u32) 32 W' B0 (fun _ => True) v' ((l.set b (bits .or .u32 (rd l b) (rd l a))).eraseIdx a):=by
 obtain ⟨go,co,rfl,hgo,hgl,cl,HG⟩:=Kd.c_o hR (by omega)
 have HX0:=a_a.mk hB0w
 have HX2:=a_a.mk hbB
 have HX3:=a_a.mk hBq
 clear hB0w hbB hBq
 rw [hm] at hR hq h1 h2
 have HLEN:=a_a.mk hm
 have hm2 : m < 35184372088832:=by omega
 have BKq:=a_a.mk hq
 have BKa:=a_a.mk ha
 have BKb:=a_a.mk hb
 have HO:=a_a.mk hR
 have cq : w.cell? ⟨gq,0,none⟩ = some (.slice (some ⟨go,0,none⟩) (m + 1) co):=(a_h hq 0).trans rfl
 have ca : w.cell? ⟨ga,0,none⟩ = some (.int .i64 a):=(a_h ha 0).trans rfl
 have cb : w.cell? ⟨gb,0,none⟩ = some (.int .i64 b):=(a_h hb 0).trans rfl
 obtain ⟨ce,fe⟩:=Kd.b_M 0 hR a (by omega) (by omega)
 obtain ⟨ce2,fe2⟩:=Kd.b_M 0 hR b (by omega) (by omega)
 have n3 : ¬ ga = go:=by have:=hB0 ga (by simp);omega
 have n4 : ¬ gb = go:=by have:=hB0 gb (by simp);omega
 have n6 : ¬ gq = go:=by intro e;subst e;rw [hq] at HG;cases HG
 clear hq ha hb hR hB0 HG hl hm
 have d1 : ((a : Int) == (b : Int)) = false:=beq_eq_false_iff_ne.mpr (by omega)
 clear hne
 have d4 : decide (0 ≤ (a : Int)) = true:=decide_eq_true (by omega)
 have d6 : (0 ≤ (a : Int)) = True:=eq_true (by omega)
 have d7 : ((a : Int) < (m : Int) + 1) = True:=eq_true (by omega)
 have d8 : (0 ≤ (b : Int)) = True:=eq_true (by omega)
 have d9 : ((b : Int) < (m : Int) + 1) = True:=eq_true (by omega)
 have e1 : rdOf 0 l (a : Int) = rd l a:=rfl
 have e2 : rdOf 0 l (b : Int) = rd l b:=rfl
 rw [e1] at ce
 rw [e2] at ce2
 clear e1 e2
 simp only [Int.toNat_natCast] at ce ce2 fe fe2
 go_enter Tryd.func23,Tryd.ntmps23
 go_wp2
 go_region
 have HO2 : a_a (Kd.R (Kd.int .u32) 32 (w.setCell ⟨go,b,none⟩ (.int .u32 (bits .or .u32 (rd l b) (rd l a)))).drew B0 (fun _ => True) (.slice (some ⟨go,0,none⟩) (m + 1) co) (l.set b (bits .or .u32 (rd l b) (rd l a)))):=⟨Kd.a_P (Kd.e_I HO.out b _)⟩
 have BKq2 : a_a ((w.setCell ⟨go,b,none⟩ (.int .u32 (bits .or .u32 (rd l b) (rd l a)))).drew.heap[gq]? = some (.cells #[.slice (some ⟨go,0,none⟩) (m + 1) co] 26 (0,0))):=⟨a_m (a_v BKq.out (p:=⟨go,b,none⟩) n6 _)⟩
 have BKa2 : a_a ((w.setCell ⟨go,b,none⟩ (.int .u32 (bits .or .u32 (rd l b) (rd l a)))).drew.heap[ga]? = some (.cells #[.int .i64 a] 3 (0,0))):=⟨a_m (a_v BKa.out (p:=⟨go,b,none⟩) n3 _)⟩
 have HX : a_a (B0 ≤ (w.setCell ⟨go,b,none⟩ (.int .u32 (bits .or .u32 (rd l b) (rd l a)))).drew.heap.size):=⟨by have:=HX0.out;simpa [World.setCell] using this⟩
 have FB : a_a (Below base w (w.setCell ⟨go,b,none⟩ (.int .u32 (bits .or .u32 (rd l b) (rd l a)))).drew):=⟨((Below.refl base w).setCell (p:=⟨go,b,none⟩) (Nat.le_trans HX2.out hgo) _).drew⟩
 have FK : a_a (∀ k,k ≠ go → (w.setCell ⟨go,b,none⟩ (.int .u32 (bits .or .u32 (rd l b) (rd l a)))).drew.heap[k]? = w.heap[k]?):=⟨fun k k2 => Below.heap_setCell _ ⟨go,b,none⟩ _ k k2⟩
 have FS : a_a ((w.setCell ⟨go,b,none⟩ (.int .u32 (bits .or .u32 (rd l b) (rd l a)))).drew.heap.size = w.heap.size):=⟨by simp [World.setCell]⟩
 generalize (w.setCell ⟨go,b,none⟩ (.int .u32 (bits .or .u32 (rd l b) (rd l a)))).drew = w2 at HO2 BKq2 BKa2 HX FB FK FS ⊢
 clear cq ca cb ce ce2 fe fe2
 have cq : w2.cell? ⟨gq,0,none⟩ = some (.slice (some ⟨go,0,none⟩) (m + 1) co):=(a_h BKq2.out 0).trans rfl
 have ca : w2.cell? ⟨ga,0,none⟩ = some (.int .i64 a):=(a_h BKa2.out 0).trans rfl
 have H1:=a_a.mk h1
 go_wp2
 have hwr : IntKind.i64.wrap ((a : Int) + 1) = (a : Int) + 1:=IntWalk.i64_in _ (by omega)
 have HO2d:=a_a.mk (Kd.a_P HO2.out)
 have BKq2d:=a_a.mk (a_m BKq2.out)
 go_region_with (go_at_call 24;refine (c_M.calls go co _ m a B0 (fun _ => True) _ HO2d.out H1.out HX.out).mono ?_;rintro e w3 ⟨rfl,ho3,hg3⟩;have BKq3:=a_a.mk (b_7 BKq2d.out hg3 (fun e_ => n6 (Option.some.inj e_)));have cq3 : w3.cell? ⟨gq,0,none⟩ = some (.slice (some ⟨go,0,none⟩) (m + 1) co):=(a_h BKq3.out 0).trans rfl;have fq3:=a_f BKq3.out 0;have HO3:=a_a.mk ho3;have HG3:=a_a.mk hg3;clear ho3 hg3)
 all_goals
  clear hwr
  go_wp2
  go_ret
  refine ⟨rfl,?_,?_,.slice (some ⟨go,0,none⟩) m co,?_,?_⟩
  ·exact ((FB.out.drew).trans ((Below.refl B0 _).grown HG3.out HX.out (fun k_ e_ => by cases e_;exact hgo) |>.mono HX2.out)).setCell (p:=⟨gq,0,none⟩) (Nat.le_trans HX2.out HX3.out) _
  ·intro k_ k1 k2 k4
   have k5 : k_ ≠ go:=fun e_ => k4 (by rw [e_];rfl)
   refine (Below.heap_setCell _ ⟨gq,0,none⟩ _ k_ k2).trans ((HG3.out.block k_ (by show k_ < w2.heap.size;rw [FS.out];exact k1) (fun e_ => k5 (Option.some.inj e_))).trans (FK.out k_ k5))
  ·exact a_D (cs:=#[.slice (some ⟨go,0,none⟩) (m + 1) co]) BKq3.out 0 _ rfl
  ·exact Kd.b_2 HO3.out BKq3.out (by decide) 0 _
def d_C (l : List Int) (a b : Int) : Option (Int × List Int):=if a = b then some (2,[]) else some (0,(l.set b.toNat (bits .or .u32 (rd l b) (rd l a))).eraseIdx a.toNat)
theorem b_9.any (gq ga gb : Nat) (l : List Int) (a b : Int) (v : Value) (base B0 : Nat) (w : World) (err : Int) (l' : List Int)
 (hq : w.heap[gq]? = some (.cells #[v] 26 (0,0))) (hR : Kd.R (Kd.int .u32) 32 w B0 (fun _ => True) v l)
 (ha : w.heap[ga]? = some (.cells #[.int .i64 a] 3 (0,0))) (hb : w.heap[gb]? = some (.cells #[.int .i64 b] 3 (0,0)))
 (h0 : 0 ≤ a) (h1 : a < l.length) (h2 : 0 ≤ b) (h3 : b < l.length) (hl : l.length < 35184372088832) (hB0 : ∀ g,g = ga ∨ g = gb → g < B0) (hB0w : B0 ≤ w.heap.size) (hbB : base ≤ B0) (hBq : B0 ≤ gq) (h : d_C l a b = some (err,l')) :
 Calls Tryd.prog 23 #[.pointer (some ⟨gq,0,none⟩),.pointer (some ⟨ga,0,none⟩),.pointer (some ⟨gb,0,none⟩)] w fun e W' => e = .returned (.int .i64 err) ∧ Below base w W' ∧ True ∧ (∀ k,k < w.heap.size → k ≠ gq → ¬ False → some k ≠ v.ownBlock → W'.heap[k]? = w.heap[k]?) ∧ (err = 0 → ∃ v',W'.heap[gq]? = some (.cells #[v'] 26 (0,0)) ∧ Kd.R (Kd.int .u32) 32 W' B0 (fun _ => True) v' l'):=by
 unfold d_C at h
 by_cases hab : a = b
 ·rw [if_pos hab] at h
  injection h with h;injection h with e1 e2
  subst e1
  refine (b_9.same gq ga gb a b w ha hb hab).mono ?_
  rintro e W' ⟨rfl,m,rfl⟩
  exact ⟨rfl,(a_c (Below.refl _ _) m).mono (Nat.le_trans hbB hB0w),trivial,fun _ _ _ _ _ => rfl,fun h => absurd h (by decide)⟩
 rw [if_neg hab] at h
 injection h with h;injection h with e1 e2
 subst e1 e2
 obtain ⟨a,rfl⟩:=Int.eq_ofNat_of_zero_le h0
 obtain ⟨b,rfl⟩:=Int.eq_ofNat_of_zero_le h2
 obtain ⟨m,hm⟩ : ∃ m,l.length = m + 1:=⟨l.length - 1,by omega⟩
 refine (b_9.ok gq ga gb l m a b v base B0 w hq hR hm ha hb (by omega) (by omega) hl hB0 hB0w hbB hBq (by omega)).mono ?_
 rintro e W' ⟨rfl,a1,a2,a3⟩
 exact ⟨rfl,a1,trivial,fun k k1 k2 _ k4 => a2 k k1 k2 k4,fun _ => a3⟩
set_option maxHeartbeats 4000000 in
theorem a_X.does (k : Nat) (ad : Addr) (c0 : Nat) (l : List Int) (a b err : Int) (l' : List Int) (w : World) (hr : Kd.C (Kd.int .u32) w (some ad) l.length l) (hc : l.length ≤ c0) (hl : l.length < 35184372088832)
 (hec : a_n.f k l = some 0) (hp : a_F.f l [a,b] = some true) (h0 : 0 ≤ a) (h1 : a < l.length) (h2 : 0 ≤ b) (h3 : b < l.length) (hs : d_C l a b = some (err,l')) (L : List Int) (hL : L = if err = 0 then l' else []) :
 Calls Tryd.prog 13 #[.agg #[.slice (some ad) l.length c0],.int .i64 a,.int .i64 b] w fun e w' => ∃ v0_ : Value,e = .returned (.tuple #[.agg #[v0_],.int .i64 err]) ∧ Kd.R (Kd.int .u32) 32 w' w.heap.size (fun _ => True) v0_ L ∧ Below w.heap.size w w':=by
 have HLL:=a_a.mk hL
 clear hL
 have HR:=a_a.mk hr
 have HC:=a_a.mk hc
 have HE:=a_a.mk hec
 have HP:=a_a.mk hp
 have HL:=a_a.mk hl
 have HS:=a_a.mk hs
 have H0:=a_a.mk h0
 have H1:=a_a.mk h1
 have H2:=a_a.mk h2
 have H3:=a_a.mk h3
 clear h2 h3
 have EG:=a_a.mk (c_2 Tryd.func23 (by kernel_rfl) rfl)
 clear hr hc hec hp hl hs h0 h1
 have HB:=a_a.mk (Below.refl w.heap.size w)
 go_enter Tryd.func13,Tryd.ntmps13
 go_wp2_with (first
  | ((with_reducible refine a_u (N:=3) rfl ?_);refine a_t ?hg (N:=3) ?hd (cs:=#[.slice (some ad) l.length c0]) (t:=26) ?hr ?_;(case hd => rfl);(case hg => rfl);(case hr => first|(go_simp;done)|(go_simp;rfl));intro gbp hg wbp hbox hb;have m0_:=a_a.mk (a_i HB.out hb);have m1_:=a_a.mk (hbox);have m2_:=a_a.mk ((by rw [hg];exact HB.out.size : w.heap.size ≤ gbp));(try clear HB);have HB:=m0_;have BKp:=m1_;have GEp:=m2_;clear m0_ m1_ m2_ hb hbox hg)
  | ((with_reducible refine a_u (N:=4) rfl ?_);refine a_t ?hg (N:=4) ?hd (cs:=#[.int .i64 a]) (t:=3) ?hr ?_;(case hd => rfl);(case hg => rfl);(case hr => first|(go_simp;done)|(go_simp;rfl));intro gba hg wba hbox hb;have m0_:=a_a.mk (a_b (g:=gbp) (o:=.cells #[.slice (some ad) l.length c0] 26 (0,0)) BKp.out hb);have m1_:=a_a.mk (a_i HB.out hb);have m2_:=a_a.mk (hbox);have m3_:=a_a.mk ((by rw [hg];exact HB.out.size : w.heap.size ≤ gba));have m4_:=a_a.mk ((by rw [hg];exact Nat.ne_of_lt (a_k BKp.out) : gbp ≠ gba));have m5_:=a_a.mk ((by rw [hg];exact Nat.ne_of_gt (a_k BKp.out) : gba ≠ gbp));(try clear BKp);(try clear HB);have BKp:=m0_;have HB:=m1_;have BKa:=m2_;have GEa:=m3_;have NBp_a:=m4_;have NBa_p:=m5_;clear m0_ m1_ m2_ m3_ m4_ m5_ hb hbox hg)
  | ((with_reducible refine a_u (N:=5) rfl ?_);refine a_t ?hg (N:=5) ?hd (cs:=#[.int .i64 b]) (t:=3) ?hr ?_;(case hd => rfl);(case hg => rfl);(case hr => first|(go_simp;done)|(go_simp;rfl));intro gbb hg wbb hbox hb;have m0_:=a_a.mk (a_b (g:=gbp) (o:=.cells #[.slice (some ad) l.length c0] 26 (0,0)) BKp.out hb);have m1_:=a_a.mk (a_b (g:=gba) (o:=.cells #[.int .i64 a] 3 (0,0)) BKa.out hb);have m2_:=a_a.mk (a_i HB.out hb);have m3_:=a_a.mk (hbox);have m4_:=a_a.mk ((by rw [hg];exact HB.out.size : w.heap.size ≤ gbb));have m5_:=a_a.mk ((by rw [hg];exact Nat.ne_of_lt (a_k BKp.out) : gbp ≠ gbb));have m6_:=a_a.mk ((by rw [hg];exact Nat.ne_of_gt (a_k BKp.out) : gbb ≠ gbp));have m7_:=a_a.mk ((by rw [hg];exact Nat.ne_of_lt (a_k BKa.out) : gba ≠ gbb));have m8_:=a_a.mk ((by rw [hg];exact Nat.ne_of_gt (a_k BKa.out) : gbb ≠ gba));(try clear BKp);(try clear BKa);(try clear HB);have BKp:=m0_;have BKa:=m1_;have HB:=m2_;have BKb:=m3_;have GEb:=m4_;have NBp_b:=m5_;have NBb_p:=m6_;have NBa_b:=m7_;have NBb_a:=m8_;clear m0_ m1_ m2_ m3_ m4_ m5_ m6_ m7_ m8_ hb hbox hg)
  | ((with_reducible refine a_u (N:=6) rfl ?_);refine a_t ?hg (N:=6) ?hd (cs:=#[.slice none 0 0]) (t:=26) ?hr ?_;(case hd => rfl);(case hg => rfl);(case hr => first|(go_simp;done)|(go_simp;rfl));intro gbq hg wbq hbox hb;have m0_:=a_a.mk (a_b (g:=gbp) (o:=.cells #[.slice (some ad) l.length c0] 26 (0,0)) BKp.out hb);have m1_:=a_a.mk (a_b (g:=gba) (o:=.cells #[.int .i64 a] 3 (0,0)) BKa.out hb);have m2_:=a_a.mk (a_b (g:=gbb) (o:=.cells #[.int .i64 b] 3 (0,0)) BKb.out hb);have m3_:=a_a.mk (a_i HB.out hb);have m4_:=a_a.mk (hbox);have m5_:=a_a.mk ((by rw [hg];exact HB.out.size : w.heap.size ≤ gbq));have m6_:=a_a.mk ((by rw [hg];exact Nat.ne_of_lt (a_k BKp.out) : gbp ≠ gbq));have m7_:=a_a.mk ((by rw [hg];exact Nat.ne_of_gt (a_k BKp.out) : gbq ≠ gbp));have m8_:=a_a.mk ((by rw [hg];exact Nat.ne_of_lt (a_k BKa.out) : gba ≠ gbq));have m9_:=a_a.mk ((by rw [hg];exact Nat.ne_of_gt (a_k BKa.out) : gbq ≠ gba));have m10_:=a_a.mk ((by rw [hg];exact Nat.ne_of_lt (a_k BKb.out) : gbb ≠ gbq));have m11_:=a_a.mk ((by rw [hg];exact Nat.ne_of_gt (a_k BKb.out) : gbq ≠ gbb));(try clear BKp);(try clear BKa);(try clear BKb);(try clear HB);have BKp:=m0_;have BKa:=m1_;have BKb:=m2_;have HB:=m3_;have BKq:=m4_;have GEq:=m5_;have NBp_q:=m6_;have NBq_p:=m7_;have NBa_q:=m8_;have NBq_a:=m9_;have NBb_q:=m10_;have NBq_b:=m11_;clear m0_ m1_ m2_ m3_ m4_ m5_ m6_ m7_ m8_ m9_ m10_ m11_ hb hbox hg;have hcz1_p_0 : World.cell? _ ⟨gbp,0,none⟩ = some (.slice (some ad) l.length c0):=(a_h BKp.out 0).trans rfl;have hfz1_p:=a_f BKp.out 0;have hcz1_a_0 : World.cell? _ ⟨gba,0,none⟩ = some (.int .i64 a):=(a_h BKa.out 0).trans rfl;have hfz1_a:=a_f BKa.out 0;have hcz1_b_0 : World.cell? _ ⟨gbb,0,none⟩ = some (.int .i64 b):=(a_h BKb.out 0).trans rfl;have hfz1_b:=a_f BKb.out 0)
  | ((with_reducible refine a_u (N:=12) rfl ?_);refine Kd.c_0 (Kd.int .i64) _ 3 ?hg (N:=12) ?hd (xs:=([a,b] : List Int)) (inner:=[.int .i64 a,.int .i64 b]) (ok:=fun _ => True) (okp:=fun _ => True) ?hr ?hp (fun _ hk => hk) trivial (Below.refl _ _) (Nat.le_refl _) (by simp) ?_;(case hd => rfl);(case hg => rfl);(case hr => first|(go_simp;done)|(go_simp;rfl));(case hp => exact (Reps.snoc (R:=Kd.M (Kd.int .i64) _ _ _) (Reps.one (show Kd.M (Kd.int .i64) _ _ _ a [.int .i64 a] from rfl) (Reps.none _ _)) (show Kd.M (Kd.int .i64) _ _ _ b [.int .i64 b] from rfl) rfl));intro vns wl2 ho_ hb hg_ hnew_;clear hg_ hnew_;have m0_:=a_a.mk (a_b (g:=gbp) (o:=.cells #[.slice (some ad) l.length c0] 26 (0,0)) BKp.out hb);have m1_:=a_a.mk (a_b (g:=gba) (o:=.cells #[.int .i64 a] 3 (0,0)) BKa.out hb);have m2_:=a_a.mk (a_b (g:=gbb) (o:=.cells #[.int .i64 b] 3 (0,0)) BKb.out hb);have m3_:=a_a.mk (a_b (g:=gbq) (o:=.cells #[.slice none 0 0] 26 (0,0)) BKq.out hb);have m4_:=a_a.mk (a_i HB.out hb);have m5_:=a_a.mk (Kd.a_0 ho_ HB.out.size);(try clear BKp);(try clear BKa);(try clear BKb);(try clear BKq);(try clear HB);have BKp:=m0_;have BKa:=m1_;have BKb:=m2_;have BKq:=m3_;have HB:=m4_;have HOns:=m5_;clear m0_ m1_ m2_ m3_ m4_ m5_ hb ho_;obtain ⟨Ans,cns,ens⟩:=Kd.a_W HOns.out;subst ens)
  | (go_at_call 18;(refine (b_x.does 23 #[.pointer (some ⟨gba,0,none⟩),.pointer (some ⟨gbb,0,none⟩)] EG.out w.heap.size (fun _ => False) k ad c0 l _ _ [a,b] _ ?s1 HC.out ?s2 ?s3 HB.out.size ?s4 HE.out HP.out HL.out err l' (fun _ => True) ?s5 ?s6).mono ?_);(case s1 => exact Kd.a_K HR.out HB.out);(case s2 => exact (Kd.a_B HOns.out).2.2);(case s3 => exact (Kd.a_B HOns.out).2.1);(case s4 => exact fun k_ e_ => e_.elim);(case s5 => exact fun W_ W2_ h1_ h2_ => trivial);(case s6 => exact fun W_ gq_ v_ b_ q_ bq_ r_ => b_9.any gq_ gba gbb l a b v_ w.heap.size _ W_ err l' bq_ r_ (a_b BKa.out b_) (a_b BKb.out b_) H0.out H1.out H2.out H3.out HL.out (fun g_ h_ => by rcases h_ with rfl|rfl;exact a_k BKa.out;exact a_k BKb.out) b_.size HB.out.size q_ HS.out);rintro e wr ⟨v,rfl,ho_,hbl_,hj_,hk_⟩;rw [← HLL.out] at ho_;clear HOns hcz1_p_0 hfz1_p hcz1_a_0 hfz1_a hcz1_b_0 hfz1_b;have m0_:=a_a.mk ((hk_ gbp (a_k BKp.out) (fun h_ => h_.elim)).trans BKp.out);have m1_:=a_a.mk ((hk_ gba (a_k BKa.out) (fun h_ => h_.elim)).trans BKa.out);have m2_:=a_a.mk ((hk_ gbb (a_k BKb.out) (fun h_ => h_.elim)).trans BKb.out);have m3_:=a_a.mk ((hk_ gbq (a_k BKq.out) (fun h_ => h_.elim)).trans BKq.out);have m4_:=a_a.mk (HB.out.trans hbl_);have m5_:=a_a.mk (Kd.a_0 ho_ HB.out.size);(try clear BKp);(try clear BKa);(try clear BKb);(try clear BKq);(try clear HB);have BKp:=m0_;have BKa:=m1_;have BKb:=m2_;have BKq:=m3_;have HB:=m4_;have HOv:=m5_;clear m0_ m1_ m2_ m3_ m4_ m5_ ho_ hbl_ hj_ hk_;obtain ⟨Av,cv,ev⟩:=Kd.a_W HOv.out;subst ev;have hcz3_q_0 : World.cell? _ ⟨gbq,0,none⟩ = some (.slice none 0 0):=(a_h BKq.out 0).trans rfl;have hfz3_q:=a_f BKq.out 0))
 refine bodyPost_ret (b_q rfl _ _ gbq 26 #[.slice Av (L).length cv] (0,0) _ rfl (a_D (cs:=#[.slice none 0 0]) BKq.out 0 _ rfl) Tryd.underlying26 rfl (by kernel_rfl)) rfl ?_
 exact ⟨_,rfl,Kd.b_2 HOv.out BKq.out (by decide) 0 _,HB.out.setCell GEq.out _⟩
set_option maxHeartbeats 4000000 in
theorem a_X.bad (k : Nat) (A0 : Option Addr) (c0 : Nat) (l : List Int) (a b : Int) (w : World) (hr : Kd.C (Kd.int .u32) w A0 l.length l) (hc : l.length ≤ c0) (e1 : Int) (hec : a_n.f k l = some e1) (hp : e1 ≠ 0) :
 Calls Tryd.prog 13 #[.agg #[.slice A0 l.length c0],.int .i64 a,.int .i64 b] w fun e w' => ∃ v0_ : Value,e = .returned (.tuple #[.agg #[v0_],.int .i64 e1]) ∧ Kd.R (Kd.int .u32) 32 w' w.heap.size (fun _ => True) v0_ [] ∧ Below w.heap.size w w':=by
 have HR:=a_a.mk hr
 have HC:=a_a.mk hc
 have HE:=a_a.mk hec
 have HP:=a_a.mk hp
 clear hr hc hec hp
 have HB:=a_a.mk (Below.refl w.heap.size w)
 go_enter Tryd.func13,Tryd.ntmps13
 go_wp2_with (first
  | ((with_reducible refine a_u (N:=3) rfl ?_);refine a_t ?hg (N:=3) ?hd (cs:=#[.slice A0 l.length c0]) (t:=26) ?hr ?_;(case hd => rfl);(case hg => rfl);(case hr => first|(go_simp;done)|(go_simp;rfl));intro gbp hg wbp hbox hb;have m0_:=a_a.mk (a_i HB.out hb);have m1_:=a_a.mk (hbox);have m2_:=a_a.mk ((by rw [hg];exact HB.out.size : w.heap.size ≤ gbp));(try clear HB);have HB:=m0_;have BKp:=m1_;have GEp:=m2_;clear m0_ m1_ m2_ hb hbox hg)
  | ((with_reducible refine a_u (N:=4) rfl ?_);refine a_t ?hg (N:=4) ?hd (cs:=#[.int .i64 a]) (t:=3) ?hr ?_;(case hd => rfl);(case hg => rfl);(case hr => first|(go_simp;done)|(go_simp;rfl));intro gba hg wba hbox hb;have m0_:=a_a.mk (a_b (g:=gbp) (o:=.cells #[.slice A0 l.length c0] 26 (0,0)) BKp.out hb);have m1_:=a_a.mk (a_i HB.out hb);have m2_:=a_a.mk (hbox);have m3_:=a_a.mk ((by rw [hg];exact HB.out.size : w.heap.size ≤ gba));have m4_:=a_a.mk ((by rw [hg];exact Nat.ne_of_lt (a_k BKp.out) : gbp ≠ gba));have m5_:=a_a.mk ((by rw [hg];exact Nat.ne_of_gt (a_k BKp.out) : gba ≠ gbp));(try clear BKp);(try clear HB);have BKp:=m0_;have HB:=m1_;have BKa:=m2_;have GEa:=m3_;have NBp_a:=m4_;have NBa_p:=m5_;clear m0_ m1_ m2_ m3_ m4_ m5_ hb hbox hg)
  | ((with_reducible refine a_u (N:=5) rfl ?_);refine a_t ?hg (N:=5) ?hd (cs:=#[.int .i64 b]) (t:=3) ?hr ?_;(case hd => rfl);(case hg => rfl);(case hr => first|(go_simp;done)|(go_simp;rfl));intro gbb hg wbb hbox hb;have m0_:=a_a.mk (a_b (g:=gbp) (o:=.cells #[.slice A0 l.length c0] 26 (0,0)) BKp.out hb);have m1_:=a_a.mk (a_b (g:=gba) (o:=.cells #[.int .i64 a] 3 (0,0)) BKa.out hb);have m2_:=a_a.mk (a_i HB.out hb);have m3_:=a_a.mk (hbox);have m4_:=a_a.mk ((by rw [hg];exact HB.out.size : w.heap.size ≤ gbb));have m5_:=a_a.mk ((by rw [hg];exact Nat.ne_of_lt (a_k BKp.out) : gbp ≠ gbb));have m6_:=a_a.mk ((by rw [hg];exact Nat.ne_of_gt (a_k BKp.out) : gbb ≠ gbp));have m7_:=a_a.mk ((by rw [hg];exact Nat.ne_of_lt (a_k BKa.out) : gba ≠ gbb));have m8_:=a_a.mk ((by rw [hg];exact Nat.ne_of_gt (a_k BKa.out) : gbb ≠ gba));(try clear BKp);(try clear BKa);(try clear HB);have BKp:=m0_;have BKa:=m1_;have HB:=m2_;have BKb:=m3_;have GEb:=m4_;have NBp_b:=m5_;have NBb_p:=m6_;have NBa_b:=m7_;have NBb_a:=m8_;clear m0_ m1_ m2_ m3_ m4_ m5_ m6_ m7_ m8_ hb hbox hg)
  | ((with_reducible refine a_u (N:=6) rfl ?_);refine a_t ?hg (N:=6) ?hd (cs:=#[.slice none 0 0]) (t:=26) ?hr ?_;(case hd => rfl);(case hg => rfl);(case hr => first|(go_simp;done)|(go_simp;rfl));intro gbq hg wbq hbox hb;have m0_:=a_a.mk (a_b (g:=gbp) (o:=.cells #[.slice A0 l.length c0] 26 (0,0)) BKp.out hb);have m1_:=a_a.mk (a_b (g:=gba) (o:=.cells #[.int .i64 a] 3 (0,0)) BKa.out hb);have m2_:=a_a.mk (a_b (g:=gbb) (o:=.cells #[.int .i64 b] 3 (0,0)) BKb.out hb);have m3_:=a_a.mk (a_i HB.out hb);have m4_:=a_a.mk (hbox);have m5_:=a_a.mk ((by rw [hg];exact HB.out.size : w.heap.size ≤ gbq));have m6_:=a_a.mk ((by rw [hg];exact Nat.ne_of_lt (a_k BKp.out) : gbp ≠ gbq));have m7_:=a_a.mk ((by rw [hg];exact Nat.ne_of_gt (a_k BKp.out) : gbq ≠ gbp));have m8_:=a_a.mk ((by rw [hg];exact Nat.ne_of_lt (a_k BKa.out) : gba ≠ gbq));have m9_:=a_a.mk ((by rw [hg];exact Nat.ne_of_gt (a_k BKa.out) : gbq ≠ gba));have m10_:=a_a.mk ((by rw [hg];exact Nat.ne_of_lt (a_k BKb.out) : gbb ≠ gbq));have m11_:=a_a.mk ((by rw [hg];exact Nat.ne_of_gt (a_k BKb.out) : gbq ≠ gbb));(try clear BKp);(try clear BKa);(try clear BKb);(try clear HB);have BKp:=m0_;have BKa:=m1_;have BKb:=m2_;have HB:=m3_;have BKq:=m4_;have GEq:=m5_;have NBp_q:=m6_;have NBq_p:=m7_;have NBa_q:=m8_;have NBq_a:=m9_;have NBb_q:=m10_;have NBq_b:=m11_;clear m0_ m1_ m2_ m3_ m4_ m5_ m6_ m7_ m8_ m9_ m10_ m11_ hb hbox hg;have hcz1_p_0 : World.cell? _ ⟨gbp,0,none⟩ = some (.slice A0 l.length c0):=(a_h BKp.out 0).trans rfl;have hfz1_p:=a_f BKp.out 0;have hcz1_a_0 : World.cell? _ ⟨gba,0,none⟩ = some (.int .i64 a):=(a_h BKa.out 0).trans rfl;have hfz1_a:=a_f BKa.out 0;have hcz1_b_0 : World.cell? _ ⟨gbb,0,none⟩ = some (.int .i64 b):=(a_h BKb.out 0).trans rfl;have hfz1_b:=a_f BKb.out 0)
  | ((with_reducible refine a_u (N:=12) rfl ?_);refine Kd.c_0 (Kd.int .i64) _ 3 ?hg (N:=12) ?hd (xs:=([a,b] : List Int)) (inner:=[.int .i64 a,.int .i64 b]) (ok:=fun _ => True) (okp:=fun _ => True) ?hr ?hp (fun _ hk => hk) trivial (Below.refl _ _) (Nat.le_refl _) (by simp) ?_;(case hd => rfl);(case hg => rfl);(case hr => first|(go_simp;done)|(go_simp;rfl));(case hp => exact (Reps.snoc (R:=Kd.M (Kd.int .i64) _ _ _) (Reps.one (show Kd.M (Kd.int .i64) _ _ _ a [.int .i64 a] from rfl) (Reps.none _ _)) (show Kd.M (Kd.int .i64) _ _ _ b [.int .i64 b] from rfl) rfl));intro vns wl2 ho_ hb hg_ hnew_;clear hg_ hnew_;have m0_:=a_a.mk (a_b (g:=gbp) (o:=.cells #[.slice A0 l.length c0] 26 (0,0)) BKp.out hb);have m1_:=a_a.mk (a_b (g:=gba) (o:=.cells #[.int .i64 a] 3 (0,0)) BKa.out hb);have m2_:=a_a.mk (a_b (g:=gbb) (o:=.cells #[.int .i64 b] 3 (0,0)) BKb.out hb);have m3_:=a_a.mk (a_b (g:=gbq) (o:=.cells #[.slice none 0 0] 26 (0,0)) BKq.out hb);have m4_:=a_a.mk (a_i HB.out hb);have m5_:=a_a.mk (Kd.a_0 ho_ HB.out.size);(try clear BKp);(try clear BKa);(try clear BKb);(try clear BKq);(try clear HB);have BKp:=m0_;have BKa:=m1_;have BKb:=m2_;have BKq:=m3_;have HB:=m4_;have HOns:=m5_;clear m0_ m1_ m2_ m3_ m4_ m5_ hb ho_;obtain ⟨Ans,cns,ens⟩:=Kd.a_W HOns.out;subst ens)
  | (go_at_call 18;(refine (b_x.bad 23 #[.pointer (some ⟨gba,0,none⟩),.pointer (some ⟨gbb,0,none⟩)] k A0 c0 l _ _ [a,b] _ ?s1 HC.out ?s2 ?s3 e1 HE.out HP.out).mono ?_);(case s1 => exact Kd.a_K HR.out HB.out);(case s2 => exact (Kd.a_B HOns.out).2.2);(case s3 => exact (Kd.a_B HOns.out).2.1);rintro e wr ⟨rfl,hb⟩;clear HOns hcz1_p_0 hfz1_p hcz1_a_0 hfz1_a hcz1_b_0 hfz1_b;have m0_:=a_a.mk (a_b (g:=gbp) (o:=.cells #[.slice A0 l.length c0] 26 (0,0)) BKp.out hb);have m1_:=a_a.mk (a_b (g:=gba) (o:=.cells #[.int .i64 a] 3 (0,0)) BKa.out hb);have m2_:=a_a.mk (a_b (g:=gbb) (o:=.cells #[.int .i64 b] 3 (0,0)) BKb.out hb);have m3_:=a_a.mk (a_b (g:=gbq) (o:=.cells #[.slice none 0 0] 26 (0,0)) BKq.out hb);have m4_:=a_a.mk (a_i HB.out hb);(try clear BKp);(try clear BKa);(try clear BKb);(try clear BKq);(try clear HB);have BKp:=m0_;have BKa:=m1_;have BKb:=m2_;have BKq:=m3_;have HB:=m4_;clear m0_ m1_ m2_ m3_ m4_ hb;have HOv:=a_a.mk (Kd.c_6 (Kd.int .u32) 32 wr w.heap.size (fun _ => True));have hcz3_q_0 : World.cell? _ ⟨gbq,0,none⟩ = some (.slice none 0 0):=(a_h BKq.out 0).trans rfl;have hfz3_q:=a_f BKq.out 0))
 refine bodyPost_ret (b_q rfl _ _ gbq 26 #[.slice none 0 0] (0,0) _ rfl (a_D (cs:=#[.slice none 0 0]) BKq.out 0 _ rfl) Tryd.underlying26 rfl (by kernel_rfl)) rfl ?_
 exact ⟨_,rfl,Kd.b_2 HOv.out BKq.out (by decide) 0 _,HB.out.setCell GEq.out _⟩
set_option maxHeartbeats 4000000 in
theorem a_X.lacks (k : Nat) (A0 : Option Addr) (c0 : Nat) (l : List Int) (a b : Int) (w : World) (hr : Kd.C (Kd.int .u32) w A0 l.length l) (hc : l.length ≤ c0) (hec : a_n.f k l = some 0) (hp : a_F.f l [a,b] = some false) :
 Calls Tryd.prog 13 #[.agg #[.slice A0 l.length c0],.int .i64 a,.int .i64 b] w fun e w' => ∃ v0_ : Value,e = .returned (.tuple #[.agg #[v0_],.int .i64 4]) ∧ Kd.R (Kd.int .u32) 32 w' w.heap.size (fun _ => True) v0_ [] ∧ Below w.heap.size w w':=by
 have HR:=a_a.mk hr
 have HC:=a_a.mk hc
 have HE:=a_a.mk hec
 have HP:=a_a.mk hp
 clear hr hc hec hp
 have HB:=a_a.mk (Below.refl w.heap.size w)
 go_enter Tryd.func13,Tryd.ntmps13
 go_wp2_with (first
  | ((with_reducible refine a_u (N:=3) rfl ?_);refine a_t ?hg (N:=3) ?hd (cs:=#[.slice A0 l.length c0]) (t:=26) ?hr ?_;(case hd => rfl);(case hg => rfl);(case hr => first|(go_simp;done)|(go_simp;rfl));intro gbp hg wbp hbox hb;have m0_:=a_a.mk (a_i HB.out hb);have m1_:=a_a.mk (hbox);have m2_:=a_a.mk ((by rw [hg];exact HB.out.size : w.heap.size ≤ gbp));(try clear HB);have HB:=m0_;have BKp:=m1_;have GEp:=m2_;clear m0_ m1_ m2_ hb hbox hg)
  | ((with_reducible refine a_u (N:=4) rfl ?_);refine a_t ?hg (N:=4) ?hd (cs:=#[.int .i64 a]) (t:=3) ?hr ?_;(case hd => rfl);(case hg => rfl);(case hr => first|(go_simp;done)|(go_simp;rfl));intro gba hg wba hbox hb;have m0_:=a_a.mk (a_b (g:=gbp) (o:=.cells #[.slice A0 l.length c0] 26 (0,0)) BKp.out hb);have m1_:=a_a.mk (a_i HB.out hb);have m2_:=a_a.mk (hbox);have m3_:=a_a.mk ((by rw [hg];exact HB.out.size : w.heap.size ≤ gba));have m4_:=a_a.mk ((by rw [hg];exact Nat.ne_of_lt (a_k BKp.out) : gbp ≠ gba));have m5_:=a_a.mk ((by rw [hg];exact Nat.ne_of_gt (a_k BKp.out) : gba ≠ gbp));(try clear BKp);(try clear HB);have BKp:=m0_;have HB:=m1_;have BKa:=m2_;have GEa:=m3_;have NBp_a:=m4_;have NBa_p:=m5_;clear m0_ m1_ m2_ m3_ m4_ m5_ hb hbox hg)
  | ((with_reducible refine a_u (N:=5) rfl ?_);refine a_t ?hg (N:=5) ?hd (cs:=#[.int .i64 b]) (t:=3) ?hr ?_;(case hd => rfl);(case hg => rfl);(case hr => first|(go_simp;done)|(go_simp;rfl));intro gbb hg wbb hbox hb;have m0_:=a_a.mk (a_b (g:=gbp) (o:=.cells #[.slice A0 l.length c0] 26 (0,0)) BKp.out hb);have m1_:=a_a.mk (a_b (g:=gba) (o:=.cells #[.int .i64 a] 3 (0,0)) BKa.out hb);have m2_:=a_a.mk (a_i HB.out hb);have m3_:=a_a.mk (hbox);have m4_:=a_a.mk ((by rw [hg];exact HB.out.size : w.heap.size ≤ gbb));have m5_:=a_a.mk ((by rw [hg];exact Nat.ne_of_lt (a_k BKp.out) : gbp ≠ gbb));have m6_:=a_a.mk ((by rw [hg];exact Nat.ne_of_gt (a_k BKp.out) : gbb ≠ gbp));have m7_:=a_a.mk ((by rw [hg];exact Nat.ne_of_lt (a_k BKa.out) : gba ≠ gbb));have m8_:=a_a.mk ((by rw [hg];exact Nat.ne_of_gt (a_k BKa.out) : gbb ≠ gba));(try clear BKp);(try clear BKa);(try clear HB);have BKp:=m0_;have BKa:=m1_;have HB:=m2_;have BKb:=m3_;have GEb:=m4_;have NBp_b:=m5_;have NBb_p:=m6_;have NBa_b:=m7_;have NBb_a:=m8_;clear m0_ m1_ m2_ m3_ m4_ m5_ m6_ m7_ m8_ hb hbox hg)
  | ((with_reducible refine a_u (N:=6) rfl ?_);refine a_t ?hg (N:=6) ?hd (cs:=#[.slice none 0 0]) (t:=26) ?hr ?_;(case hd => rfl);(case hg => rfl);(case hr => first|(go_simp;done)|(go_simp;rfl));intro gbq hg wbq hbox hb;have m0_:=a_a.mk (a_b (g:=gbp) (o:=.cells #[.slice A0 l.length c0] 26 (0,0)) BKp.out hb);have m1_:=a_a.mk (a_b (g:=gba) (o:=.cells #[.int .i64 a] 3 (0,0)) BKa.out hb);have m2_:=a_a.mk (a_b (g:=gbb) (o:=.cells #[.int .i64 b] 3 (0,0)) BKb.out hb);have m3_:=a_a.mk (a_i HB.out hb);have m4_:=a_a.mk (hbox);have m5_:=a_a.mk ((by rw [hg];exact HB.out.size : w.heap.size ≤ gbq));have m6_:=a_a.mk ((by rw [hg];exact Nat.ne_of_lt (a_k BKp.out) : gbp ≠ gbq));have m7_:=a_a.mk ((by rw [hg];exact Nat.ne_of_gt (a_k BKp.out) : gbq ≠ gbp));have m8_:=a_a.mk ((by rw [hg];exact Nat.ne_of_lt (a_k BKa.out) : gba ≠ gbq));have m9_:=a_a.mk ((by rw [hg];exact Nat.ne_of_gt (a_k BKa.out) : gbq ≠ gba));have m10_:=a_a.mk ((by rw [hg];exact Nat.ne_of_lt (a_k BKb.out) : gbb ≠ gbq));have m11_:=a_a.mk ((by rw [hg];exact Nat.ne_of_gt (a_k BKb.out) : gbq ≠ gbb));(try clear BKp);(try clear BKa);(try clear BKb);(try clear HB);have BKp:=m0_;have BKa:=m1_;have BKb:=m2_;have HB:=m3_;have BKq:=m4_;have GEq:=m5_;have NBp_q:=m6_;have NBq_p:=m7_;have NBa_q:=m8_;have NBq_a:=m9_;have NBb_q:=m10_;have NBq_b:=m11_;clear m0_ m1_ m2_ m3_ m4_ m5_ m6_ m7_ m8_ m9_ m10_ m11_ hb hbox hg;have hcz1_p_0 : World.cell? _ ⟨gbp,0,none⟩ = some (.slice A0 l.length c0):=(a_h BKp.out 0).trans rfl;have hfz1_p:=a_f BKp.out 0;have hcz1_a_0 : World.cell? _ ⟨gba,0,none⟩ = some (.int .i64 a):=(a_h BKa.out 0).trans rfl;have hfz1_a:=a_f BKa.out 0;have hcz1_b_0 : World.cell? _ ⟨gbb,0,none⟩ = some (.int .i64 b):=(a_h BKb.out 0).trans rfl;have hfz1_b:=a_f BKb.out 0)
  | ((with_reducible refine a_u (N:=12) rfl ?_);refine Kd.c_0 (Kd.int .i64) _ 3 ?hg (N:=12) ?hd (xs:=([a,b] : List Int)) (inner:=[.int .i64 a,.int .i64 b]) (ok:=fun _ => True) (okp:=fun _ => True) ?hr ?hp (fun _ hk => hk) trivial (Below.refl _ _) (Nat.le_refl _) (by simp) ?_;(case hd => rfl);(case hg => rfl);(case hr => first|(go_simp;done)|(go_simp;rfl));(case hp => exact (Reps.snoc (R:=Kd.M (Kd.int .i64) _ _ _) (Reps.one (show Kd.M (Kd.int .i64) _ _ _ a [.int .i64 a] from rfl) (Reps.none _ _)) (show Kd.M (Kd.int .i64) _ _ _ b [.int .i64 b] from rfl) rfl));intro vns wl2 ho_ hb hg_ hnew_;clear hg_ hnew_;have m0_:=a_a.mk (a_b (g:=gbp) (o:=.cells #[.slice A0 l.length c0] 26 (0,0)) BKp.out hb);have m1_:=a_a.mk (a_b (g:=gba) (o:=.cells #[.int .i64 a] 3 (0,0)) BKa.out hb);have m2_:=a_a.mk (a_b (g:=gbb) (o:=.cells #[.int .i64 b] 3 (0,0)) BKb.out hb);have m3_:=a_a.mk (a_b (g:=gbq) (o:=.cells #[.slice none 0 0] 26 (0,0)) BKq.out hb);have m4_:=a_a.mk (a_i HB.out hb);have m5_:=a_a.mk (Kd.a_0 ho_ HB.out.size);(try clear BKp);(try clear BKa);(try clear BKb);(try clear BKq);(try clear HB);have BKp:=m0_;have BKa:=m1_;have BKb:=m2_;have BKq:=m3_;have HB:=m4_;have HOns:=m5_;clear m0_ m1_ m2_ m3_ m4_ m5_ hb ho_;obtain ⟨Ans,cns,ens⟩:=Kd.a_W HOns.out;subst ens)
  | (go_at_call 18;(refine (b_x.lacks 23 #[.pointer (some ⟨gba,0,none⟩),.pointer (some ⟨gbb,0,none⟩)] k A0 c0 l _ _ [a,b] _ ?s1 HC.out ?s2 ?s3 HE.out HP.out).mono ?_);(case s1 => exact Kd.a_K HR.out HB.out);(case s2 => exact (Kd.a_B HOns.out).2.2);(case s3 => exact (Kd.a_B HOns.out).2.1);rintro e wr ⟨rfl,hb⟩;clear HOns hcz1_p_0 hfz1_p hcz1_a_0 hfz1_a hcz1_b_0 hfz1_b;have m0_:=a_a.mk (a_b (g:=gbp) (o:=.cells #[.slice A0 l.length c0] 26 (0,0)) BKp.out hb);have m1_:=a_a.mk (a_b (g:=gba) (o:=.cells #[.int .i64 a] 3 (0,0)) BKa.out hb);have m2_:=a_a.mk (a_b (g:=gbb) (o:=.cells #[.int .i64 b] 3 (0,0)) BKb.out hb);have m3_:=a_a.mk (a_b (g:=gbq) (o:=.cells #[.slice none 0 0] 26 (0,0)) BKq.out hb);have m4_:=a_a.mk (a_i HB.out hb);(try clear BKp);(try clear BKa);(try clear BKb);(try clear BKq);(try clear HB);have BKp:=m0_;have BKa:=m1_;have BKb:=m2_;have BKq:=m3_;have HB:=m4_;clear m0_ m1_ m2_ m3_ m4_ hb;have HOv:=a_a.mk (Kd.c_6 (Kd.int .u32) 32 wr w.heap.size (fun _ => True));have hcz3_q_0 : World.cell? _ ⟨gbq,0,none⟩ = some (.slice none 0 0):=(a_h BKq.out 0).trans rfl;have hfz3_q:=a_f BKq.out 0))
 refine bodyPost_ret (b_q rfl _ _ gbq 26 #[.slice none 0 0] (0,0) _ rfl (a_D (cs:=#[.slice none 0 0]) BKq.out 0 _ rfl) Tryd.underlying26 rfl (by kernel_rfl)) rfl ?_
 exact ⟨_,rfl,Kd.b_2 HOv.out BKq.out (by decide) 0 _,HB.out.setCell GEq.out _⟩
def a_X.f (k : Nat) (l0_0 : List Int) (a1 : Int) (a2 : Int) : Option (List Int × Int) :=
 if l0_0.length < 35184372088832 then (a_n.f k l0_0).bind fun e => if e ≠ 0 then some ([],e) else (a_F.f l0_0 [a1,a2]).bind fun ok => if ok = false then some ([],4) else (d_C l0_0 a1 a2).bind fun x => some (if x.1 = 0 then x.2 else [],x.1) else none
theorem a_X.mono : ∀ a0 a1 a2 k,LeO (a_X.f k a0 a1 a2) (a_X.f (k + 1) a0 a1 a2):=by
 intro a0 a1 a2 k
 unfold a_X.f
 split
 ·exact LeO.bind (a_n.mono a0 k) (fun _ => LeO.refl _)
 exact LeO.refl _
theorem a_F.two {l : List Int} {n m : Int} (h : a_F.f l [n,m] = some true) : (0 ≤ n ∧ n < l.length) ∧ 0 ≤ m ∧ m < l.length:=by
 unfold a_F.f at h
 simp at h
 omega
theorem a_X.calls (k : Nat) (A0_0 : Option Addr) (c0_0 : Nat) (l0_0 : List Int) (a1 : Int) (a2 : Int) (r1 : List Int) (r2 : Int) (w : World) (hr0_0 : Kd.C (Kd.int .u32) w A0_0 l0_0.length l0_0) (hc0_0 : l0_0.length ≤ c0_0) (h : a_X.f k l0_0 a1 a2 = some (r1,r2)) :
 Calls Tryd.prog 13 #[.agg #[.slice A0_0 l0_0.length c0_0],.int .i64 a1,.int .i64 a2] w fun e w' => ∃ v0_ : Value,e = .returned (.tuple #[.agg #[v0_],.int .i64 r2]) ∧ Kd.R (Kd.int .u32) 32 w' w.heap.size (fun _ => True) v0_ r1 ∧ Below w.heap.size w w':=by
 unfold a_X.f at h
 split at h
 case isFalse => cases h
 case isTrue hl =>
 obtain ⟨e,he,h⟩:=Option.bind_eq_some_iff.mp h
 by_cases e0 : e = 0
 case neg =>
  rw [if_pos e0] at h
  injection h with h;injection h with h1 h2
  subst h1 h2
  exact a_X.bad k A0_0 c0_0 l0_0 a1 a2 w hr0_0 hc0_0 e he e0
 subst e0
 rw [if_neg (by simp)] at h
 obtain ⟨ok,hok,h⟩:=Option.bind_eq_some_iff.mp h
 cases ok
 ·rw [if_pos rfl] at h
  injection h with h;injection h with h1 h2
  subst h1 h2
  exact a_X.lacks k A0_0 c0_0 l0_0 a1 a2 w hr0_0 hc0_0 he hok
 rw [if_neg (by simp)] at h
 obtain ⟨⟨err,l'⟩,hx,h⟩:=Option.bind_eq_some_iff.mp h
 injection h with h;injection h with h1 h2
 subst h2
 obtain ⟨⟨h0,h1'⟩,h2,h3⟩:=a_F.two hok
 obtain ⟨ad,rfl,_⟩:=Kd.b_X hr0_0 a1 h0 h1'
 exact a_X.does k ad c0_0 l0_0 a1 a2 err l' w hr0_0 hc0_0 hl he hok h0 h1' h2 h3 hx r1 h1.symm
end Go.Proofs.YtkhbffjfclepfaaDoor.Q
end
section
namespace Go.Proofs.YtkhbffjfclepfaaDoor.Q
open Go.RowKit Go.Proofs.YtkhbffjfclepfaaDoorW.PrintWords Go.Proofs.YtkhbffjfclepfaaDoorW.PrintLast Go.Proofs.YtkhbffjfclepfaaDoorW.PrintMore
set_option linter.unusedVariables false
set_option linter.unusedSimpArgs false
def a_q.j0 : Nat → Int → Int → Bool → Int → Int → Int → Int → Int → List Int → Option (List Int × Int × Int)
 | 0,_,_,_,_,_,_,_,_,_ => none
 | k + 1,x5,x10,x21,x138000,x138001,x138002,x138003,x138004,x139000 => if x21 = true then ((a_J.f k x139000 x138001 x138004).bind fun bt140 => (some (bt140.1,bt140.2.1,bt140.2.2))) else (if x10 = 2 then ((a_X.f k x139000 x138001 x138002).bind fun bt145 => (some (bt145.1,x5,bt145.2))) else ((a_H.f k x139000 x138003 x138002).bind fun bt149 => (some (bt149.1,bt149.2.1,bt149.2.2))))
def a_q.f (k : Nat) (a0_0 : Int) (a0_1 : Int) (a0_2 : Int) (a0_3 : Int) (a0_4 : Int) (l1_0 : List Int) : Option (List Int × Int × Int):=if (Int.tmod (IntKind.u64.wrap (a0_0)) 6) = 0 then (a_q.j0 k 0 (Int.tmod (IntKind.u64.wrap (a0_0)) 6) ((Int.tmod (IntKind.u64.wrap (a0_0)) 6) == 0) a0_0 a0_1 a0_2 a0_3 a0_4 l1_0) else (a_q.j0 k 0 (Int.tmod (IntKind.u64.wrap (a0_0)) 6) ((Int.tmod (IntKind.u64.wrap (a0_0)) 6) == 1) a0_0 a0_1 a0_2 a0_3 a0_4 l1_0)
theorem a_q.b_4 : ∀ k,(∀ y0 y1 y2 y3 y4 y5 y6 y7 y8,LeO (a_q.j0 k y0 y1 y2 y3 y4 y5 y6 y7 y8) (a_q.j0 (k + 1) y0 y1 y2 y3 y4 y5 y6 y7 y8))
 | 0 => fun _ _ _ _ _ _ _ _ _ r h => by simp [a_q.j0] at h
 | k + 1 => by
  have ih0:=a_q.b_4 k
  ·intro y0 y1 y2 y3 y4 y5 y6 y7 y8
   unfold a_q.j0
   repeat' first
   | (with_reducible exact ih0 _ _ _ _ _ _ _ _ _)
   | (with_reducible exact a_X.mono _ _ _ _)
   | (with_reducible exact a_H.mono _ _ _ _)
   | (with_reducible exact a_J.mono _ _ _ _)
   | (with_reducible exact LeO.refl _)
   | (with_reducible exact LeO.none _)
   | (with_reducible refine LeO.ite ?_ ?_)
   | (with_reducible refine LeO.bind ?_ (fun _ => ?_))
   | exact ih0 _ _ _ _ _ _ _ _ _
   | exact a_X.mono _ _ _ _
   | exact a_H.mono _ _ _ _
   | exact a_J.mono _ _ _ _
   | exact LeO.none _
   | refine LeO.ite ?_ ?_
   | refine LeO.bind ?_ (fun _ => ?_)
theorem a_q.mono : ∀ a0 a1 a2 a3 a4 a5 k,LeO (a_q.f k a0 a1 a2 a3 a4 a5) (a_q.f (k + 1) a0 a1 a2 a3 a4 a5):=by
 intro a0 a1 a2 a3 a4 a5 k
 have ih0:=a_q.b_4 k
 unfold a_q.f
 repeat' first
  | (with_reducible exact ih0 _ _ _ _ _ _ _ _ _)
  | (with_reducible exact a_X.mono _ _ _ _)
  | (with_reducible exact a_H.mono _ _ _ _)
  | (with_reducible exact a_J.mono _ _ _ _)
  | (with_reducible exact LeO.refl _)
  | (with_reducible exact LeO.none _)
  | (with_reducible refine LeO.ite ?_ ?_)
  | (with_reducible refine LeO.bind ?_ (fun _ => ?_))
  | exact ih0 _ _ _ _ _ _ _ _ _
  | exact a_X.mono _ _ _ _
  | exact a_H.mono _ _ _ _
  | exact a_J.mono _ _ _ _
  | exact LeO.none _
  | refine LeO.ite ?_ ?_
  | refine LeO.bind ?_ (fun _ => ?_)
set_option maxHeartbeats 8000000 in
set_option maxRecDepth 100000 in
theorem a_q.calls (k : Nat) (a0_0 : Int) (a0_1 : Int) (a0_2 : Int) (a0_3 : Int) (a0_4 : Int) (A1_0 : Option Addr) (c1_0 : Nat) (l1_0 : List Int) (r1 : List Int) (r2 : Int) (r3 : Int) (w : World) (hr1_0 : Kd.C (Kd.int .u32) w A1_0 l1_0.length l1_0) (hc1_0 : l1_0.length ≤ c1_0) (h : a_q.f k a0_0 a0_1 a0_2 a0_3 a0_4 l1_0 = some (r1,r2,r3)) :
 Calls Tryd.prog 7 #[.agg #[.int .i64 a0_0,.int .i64 a0_1,.int .i64 a0_2,.int .i64 a0_3,.int .u32 a0_4],.agg #[.slice A1_0 l1_0.length c1_0]] w fun e w' => ∃ v0_ : Value,e = .returned (.tuple #[.agg #[v0_],.int .i64 r2,.int .i64 r3]) ∧ Kd.R (Kd.int .u32) 32 w' w.heap.size (fun _ => True) v0_ r1 ∧ Below w.heap.size w w':=by
 have hu35:=Tryd.underlying35
 have hu26:=Tryd.underlying26
 have g_u:=a_a.mk hr1_0
 have g_v:=a_a.mk hc1_0
 clear hr1_0 hc1_0
 have HB:=a_a.mk (Below.refl w.heap.size w)
 have H : (if (Int.tmod (IntKind.u64.wrap (a0_0)) 6) = 0 then (a_q.j0 k 0 (Int.tmod (IntKind.u64.wrap (a0_0)) 6) ((Int.tmod (IntKind.u64.wrap (a0_0)) 6) == 0) a0_0 a0_1 a0_2 a0_3 a0_4 l1_0) else (a_q.j0 k 0 (Int.tmod (IntKind.u64.wrap (a0_0)) 6) ((Int.tmod (IntKind.u64.wrap (a0_0)) 6) == 1) a0_0 a0_1 a0_2 a0_3 a0_4 l1_0)) = some (r1,r2,r3):=h
 clear h
 have HC3:=a_a.mk H
 clear H
 go_enter Tryd.func7,Tryd.ntmps7
 go_upto_if 21 with (first|((with_reducible refine a_u (N:=2) rfl ?_);refine a_t ?hg (N:=2) ?hd (cs:=#[.int .i64 a0_0,.int .i64 a0_1,.int .i64 a0_2,.int .i64 a0_3,.int .u32 a0_4]) (t:=35) ?hr ?_;(case hd => rfl);(case hg => rfl);(case hr => first|(go_simp;done)|(go_simp;rfl));intro b_N hg w4 hbox hb;have a_5:=a_a.mk (hbox);have j_Y:=a_a.mk ((by rw [hg];exact (a_r (lup_ HB.out)) : w.heap.size ≤ b_N));have c_w:=a_a.mk ((by rw [hg];exact (a_r (lup_ HB.out)) : w.heap.size ≤ b_N));replace HB:=a_a.mk (a_i (lup_ HB.out) hb);clear hb hbox hg)|((with_reducible refine a_u (N:=3) rfl ?_);refine a_t ?hg (N:=3) ?hd (cs:=#[.slice A1_0 l1_0.length c1_0]) (t:=26) ?hr ?_;(case hd => rfl);(case hg => rfl);(case hr => first|(go_simp;done)|(go_simp;rfl));intro d_y hg w5 hbox hb;have c_j:=a_a.mk (hbox);have j_Z:=a_a.mk ((by rw [hg];exact (a_r (by repeat (first|(with_reducible first|exact HB.out|apply a_e|apply a_c|apply a_g|refine a_d ?_ c_w.out)|exact HB.out))) : w.heap.size ≤ d_y));have c_S:=a_a.mk ((by rw [hg];exact (a_r (by repeat (first|(with_reducible first|exact HB.out|apply a_e|apply a_c|apply a_g|refine a_d ?_ c_w.out)|exact HB.out))) : w.heap.size ≤ d_y));have c_T:=a_a.mk ((by rw [hg];exact Nat.ne_of_lt (a_k (bup_ a_5.out)) : b_N ≠ d_y));have c_U:=a_a.mk ((by rw [hg];exact Nat.ne_of_gt (a_k (bup_ a_5.out)) : d_y ≠ b_N));replace a_5:=a_a.mk (a_b (bup_ a_5.out) hb);replace HB:=a_a.mk (a_i (by repeat (first|(with_reducible first|exact HB.out|apply a_e|apply a_c|apply a_g|refine a_d ?_ c_w.out)|exact HB.out)) hb);clear hb hbox hg)|((with_reducible refine a_u (N:=4) rfl ?_);refine a_t ?hg (N:=4) ?hd (cs:=#[.slice none 0 0]) (t:=26) ?hr ?_;(case hd => rfl);(case hg => rfl);(case hr => first|(go_simp;done)|(go_simp;rfl));intro c_k hg w6 hbox hb;have b_5:=a_a.mk (hbox);have j_0:=a_a.mk ((by rw [hg];exact (a_r (by repeat (first|(with_reducible first|exact HB.out|apply a_e|apply a_c|apply a_g|refine a_d ?_ c_w.out|refine a_d ?_ c_S.out)|exact HB.out))) : w.heap.size ≤ c_k));have d_q:=a_a.mk ((by rw [hg];exact (a_r (by repeat (first|(with_reducible first|exact HB.out|apply a_e|apply a_c|apply a_g|refine a_d ?_ c_w.out|refine a_d ?_ c_S.out)|exact HB.out))) : w.heap.size ≤ c_k));have c_V:=a_a.mk ((by rw [hg];exact Nat.ne_of_lt (a_k (bup_ a_5.out)) : b_N ≠ c_k));have c_W:=a_a.mk ((by rw [hg];exact Nat.ne_of_gt (a_k (bup_ a_5.out)) : c_k ≠ b_N));have d_r:=a_a.mk ((by rw [hg];exact Nat.ne_of_lt (a_k (bup_ c_j.out)) : d_y ≠ c_k));have d_s:=a_a.mk ((by rw [hg];exact Nat.ne_of_gt (a_k (bup_ c_j.out)) : c_k ≠ d_y));replace a_5:=a_a.mk (a_b (bup_ a_5.out) hb);replace c_j:=a_a.mk (a_b (bup_ c_j.out) hb);replace HB:=a_a.mk (a_i (by repeat (first|(with_reducible first|exact HB.out|apply a_e|apply a_c|apply a_g|refine a_d ?_ c_w.out|refine a_d ?_ c_S.out)|exact HB.out)) hb);clear hb hbox hg;have hnb7:=c_T.out;have hnc7:=c_U.out;have hnb8:=c_V.out;have hnc8:=c_W.out;have g_7 : w6.cell? ⟨b_N,0,none⟩ = some (.int .i64 a0_0):=(a_h a_5.out 0).trans rfl;have g_8 : w6.cell? ⟨b_N,1,none⟩ = some (.int .i64 a0_1):=(a_h a_5.out 1).trans rfl;have g_9 : w6.cell? ⟨b_N,2,none⟩ = some (.int .i64 a0_2):=(a_h a_5.out 2).trans rfl;have h_a : w6.cell? ⟨b_N,3,none⟩ = some (.int .i64 a0_3):=(a_h a_5.out 3).trans rfl;have h_b : w6.cell? ⟨b_N,4,none⟩ = some (.int .u32 a0_4):=(a_h a_5.out 4).trans rfl;have h_d:=a_f a_5.out 0;have h_e:=a_f a_5.out 1;have h_f:=a_f a_5.out 2;have h_g:=a_f a_5.out 3;have h_h:=a_f a_5.out 4))
 (try simp only [Act.put,sa_,sb_,sc_])
 go_cut [21] (fun v21 wc => ∃ (kq : Nat) (x21_2 : Bool),v21 = .bool x21_2 ∧ a_a (a_q.j0 kq 0 (Int.tmod (IntKind.u64.wrap (a0_0)) 6) x21_2 a0_0 a0_1 a0_2 a0_3 a0_4 l1_0 = some (r1,r2,r3)) ∧ a_a (kq ≤ k) ∧ a_a (wc.heap[b_N]? = some (.cells #[.int .i64 a0_0,.int .i64 a0_1,.int .i64 a0_2,.int .i64 a0_3,.int .u32 a0_4] 35 (0,0))) ∧ a_a (wc.heap[d_y]? = some (.cells #[(.slice A1_0 l1_0.length c1_0)] 26 (0,0))) ∧ a_a (wc.heap[c_k]? = some (.cells #[(.slice none 0 0)] 26 (0,0))) ∧ a_a (Below w.heap.size w wc))
 case first =>
  have H:=HC3.out
  clear HC3
  by_cases c10 : (Int.tmod (IntKind.u64.wrap (a0_0)) 6) = 0
  ·rw [if_pos c10] at H
   have c10b0 : ((Int.tmod (IntKind.u64.wrap (a0_0)) 6) == 0) = true:=beq_iff_eq.mpr c10
   have c10b1 : ((Int.tmod (IntKind.u64.wrap (a0_0)) 6) != 0) = false:=bne_eq_false_iff_eq.mpr c10
   clear c10
   (first|rw [c10b0]|(simp only [f_Q,f_G];rw [c10b0])|skip)
   have H':=a_a.mk H
   clear H
   go_wp2
   go_meet
   case rel => exact ⟨_,(((Int.tmod (IntKind.u64.wrap (a0_0)) 6) == 0)),(by first|rfl|(simp;done)|(simp [*];done)),H',⟨by first|omega|exact Nat.le_refl _⟩,⟨by (with_reducible repeat (first|refine a_o ?_ _|refine a_m ?_|refine a_p ?_ _));exact a_5.out⟩,⟨by (with_reducible repeat (first|refine a_o ?_ _|refine a_m ?_|refine a_p ?_ _));exact c_j.out⟩,⟨by (with_reducible repeat (first|refine a_o ?_ _|refine a_m ?_|refine a_p ?_ _));exact b_5.out⟩,⟨by repeat (first|(with_reducible first|exact HB.out|apply a_e|apply a_c|apply a_g|refine a_d ?_ c_w.out|refine a_d ?_ c_S.out|refine a_d ?_ d_q.out)|exact HB.out)⟩⟩
  rw [if_neg c10] at H
  have c10b0 : ((Int.tmod (IntKind.u64.wrap (a0_0)) 6) == 0) = false:=beq_eq_false_iff_ne.mpr c10
  have c10b1 : ((Int.tmod (IntKind.u64.wrap (a0_0)) 6) != 0) = true:=bne_iff_ne.mpr c10
  (first|rw [c10b0]|(simp only [f_Q,f_G];rw [c10b0])|skip)
  have H':=a_a.mk H
  clear H
  go_wp2
  go_meet
  case rel => exact ⟨_,(((Int.tmod (IntKind.u64.wrap (a0_0)) 6) == 1)),(by first|rfl|(simp;done)|(simp [*];done)),H',⟨by first|omega|exact Nat.le_refl _⟩,⟨by (with_reducible repeat (first|refine a_o ?_ _|refine a_m ?_|refine a_p ?_ _));exact a_5.out⟩,⟨by (with_reducible repeat (first|refine a_o ?_ _|refine a_m ?_|refine a_p ?_ _));exact c_j.out⟩,⟨by (with_reducible repeat (first|refine a_o ?_ _|refine a_m ?_|refine a_p ?_ _));exact b_5.out⟩,⟨by repeat (first|(with_reducible first|exact HB.out|apply a_e|apply a_c|apply a_g|refine a_d ?_ c_w.out|refine a_d ?_ c_S.out|refine a_d ?_ d_q.out)|exact HB.out)⟩⟩
 case rest =>
  clear HC3
  try clear c1
  try clear p2
  try clear c7
  try clear c8
  try clear c10
  try clear c10b0
  try clear c10b1
  try clear g_7
  try clear g_8
  try clear g_9
  try clear h_a
  try clear h_b
  try clear h_d
  try clear h_e
  try clear h_f
  try clear h_g
  try clear h_h
  obtain ⟨kq,x21_2,rfl,HA,HJ2,a_5,c_j,b_5,HB⟩:=hcut
  cases kq with
  | zero => exact absurd HA.out (by simp [a_q.j0])
  | succ kj2 =>
   have H:=HA.out
   clear HA
   simp only [a_q.j0] at H
   by_cases c11 : x21_2 = true
   ·subst c11
    have H1 : ((a_J.f kj2 l1_0 a0_1 a0_4).bind fun bt140 => (some (bt140.1,bt140.2.1,bt140.2.2))) = some (r1,r2,r3):=by rw [if_pos rfl] at H;exact H
    clear H
    have H:=H1
    clear H1
    replace H:=Option.bind_eq_some_iff.mp H
    obtain ⟨⟨t140,t143,t144⟩,A120,H⟩:=H
    replace H : (some (t140,t143,t144)) = some (r1,r2,r3):=H
    have A12:=a_a.mk A120
    clear A120
    simp only [Option.some.injEq,Prod.mk.injEq] at H
    obtain ⟨rfl,rfl,rfl⟩:=H
    have j_1:=c_U.out
    have j_2:=c_T.out
    have j_3:=d_r.out
    have j_4:=d_s.out
    have h_W : wc.cell? ⟨d_y,0,none⟩ = some (.slice A1_0 l1_0.length c1_0):=(a_h c_j.out 0).trans rfl
    have h_X:=a_f c_j.out 0
    have h_E:=c_V.out
    have h_F:=c_W.out
    have e_r : wc.cell? ⟨b_N,0,none⟩ = some (.int .i64 a0_0):=(a_h a_5.out 0).trans rfl
    have h_Y : wc.cell? ⟨b_N,1,none⟩ = some (.int .i64 a0_1):=(a_h a_5.out 1).trans rfl
    have h_Z : wc.cell? ⟨b_N,2,none⟩ = some (.int .i64 a0_2):=(a_h a_5.out 2).trans rfl
    have h_0 : wc.cell? ⟨b_N,3,none⟩ = some (.int .i64 a0_3):=(a_h a_5.out 3).trans rfl
    have i_a : wc.cell? ⟨b_N,4,none⟩ = some (.int .u32 a0_4):=(a_h a_5.out 4).trans rfl
    have e_s:=a_f a_5.out 0
    have i_b:=a_f a_5.out 1
    have i_d:=a_f a_5.out 2
    have i_e:=a_f a_5.out 3
    have i_f:=a_f a_5.out 4
    go_wp2_with (first|((with_reducible refine a_x (f:=9) rfl ?_);refine a_Y (some 30) rfl rfl Tryd.func9 (by kernel_rfl) rfl #[.agg #[.slice A1_0 l1_0.length c1_0],.int .i64 a0_1,.int .u32 a0_4] rfl (by (try simp only [List.map_toArray,List.map_cons,List.map_nil]);first|done|rfl|(simp only [List.length_drop,List.length_take];rfl)) ?_;(with_reducible refine (a_J.calls kj2 _ _ l1_0 a0_1 a0_4 t140 t143 t144 _ ?side1 ?side2 A12.out).mono ?_);(case side1 => repeat (first|exact (Kd.a_K g_u.out HB.out)|(with_reducible refine Kd.a_4 ?_ _)|(with_reducible refine Kd.a_6 ?_ _)|(with_reducible refine Kd.b_a ?_)));(case side2 => exact g_v.out);rintro e w18 ⟨v141,rfl,ho0,hb⟩;refine ⟨_,rfl,?_⟩;have h_i:=a_a.mk (Kd.a_0 ho0 (a_r (by repeat (first|(with_reducible first|exact HB.out|apply a_e|apply a_c|apply a_g|refine a_d ?_ c_w.out|refine a_d ?_ c_S.out|refine a_d ?_ d_q.out)|exact HB.out))));replace a_5:=a_a.mk (a_b (bup_ a_5.out) hb);replace c_j:=a_a.mk (a_b (bup_ c_j.out) hb);replace b_5:=a_a.mk (a_b (bup_ b_5.out) hb);replace HB:=a_a.mk (a_i (by repeat (first|(with_reducible first|exact HB.out|apply a_e|apply a_c|apply a_g|refine a_d ?_ c_w.out|refine a_d ?_ c_S.out|refine a_d ?_ d_q.out)|exact HB.out)) hb);(try clear hb);(try clear hb2);(try clear hk);(try clear hi);(try clear ho0);obtain ⟨Ao19,co19,eo19⟩:=Kd.a_W h_i.out;subst eo19;have g_w : w18.cell? ⟨c_k,0,none⟩ = some (.slice none 0 0):=(a_h b_5.out 0).trans rfl;have g_x:=a_f b_5.out 0))
    refine bodyPost_ret (b_f rfl _ _ c_k 26 #[.slice Ao19 t140.length co19] (0,0) _ rfl (by (with_reducible repeat (first|refine a_o ?_ _|refine a_m ?_|refine a_p ?_ _));refine a_D (cs:=#[.slice Ao19 t140.length co19]) ?_ 0 _ rfl;(with_reducible repeat (first|refine a_o ?_ _|refine a_m ?_|refine a_p ?_ _));refine a_D (cs:=#[.slice none 0 0]) ?_ 0 _ rfl;(with_reducible repeat (first|refine a_o ?_ _|refine a_m ?_|refine a_p ?_ _));exact b_5.out) Tryd.underlying26 rfl (by kernel_rfl)) rfl ?_
    exact ⟨_,by first|rfl|(simp [a_y,a_z] <;> rfl)|(simp [*, a_y,a_z] <;> rfl),by (with_reducible repeat (first|apply Kd.a_Q|apply Kd.a_M|apply Kd.a_P));exact Kd.a_V (Kd.a_O (p:=⟨c_k,0,none⟩) (Kd.a_O (p:=⟨c_k,0,none⟩) (Kd.a_R h_i.out b_5.out (by decide)) (fun _ hk => hk.2) (.slice Ao19 t140.length co19)) (fun _ hk => hk.2) (.slice Ao19 t140.length co19)) (fun _ hk => trivial),by repeat (first|(with_reducible first|exact HB.out|apply a_e|apply a_c|apply a_g|refine a_d ?_ c_w.out|refine a_d ?_ c_S.out|refine a_d ?_ d_q.out)|exact HB.out)⟩
   replace c11:=Bool.eq_false_iff.mpr c11
   subst c11
   have H1 : (if (Int.tmod (IntKind.u64.wrap (a0_0)) 6) = 2 then ((a_X.f kj2 l1_0 a0_1 a0_2).bind fun bt145 => (some (bt145.1,0,bt145.2))) else ((a_H.f kj2 l1_0 a0_3 a0_2).bind fun bt149 => (some (bt149.1,bt149.2.1,bt149.2.2)))) = some (r1,r2,r3):=by rw [if_neg (show ¬ (false = true) by decide)] at H;exact H
   clear H
   have H:=H1
   clear H1
   by_cases c21 : (Int.tmod (IntKind.u64.wrap (a0_0)) 6) = 2
   ·rw [if_pos c21] at H
    have c21b0 : ((Int.tmod (IntKind.u64.wrap (a0_0)) 6) == 2) = true:=beq_iff_eq.mpr c21
    have c21b1 : ((Int.tmod (IntKind.u64.wrap (a0_0)) 6) != 2) = false:=bne_eq_false_iff_eq.mpr c21
    clear c21
    replace H:=Option.bind_eq_some_iff.mp H
    obtain ⟨⟨t145,t148⟩,A220,H⟩:=H
    replace H : (some (t145,0,t148)) = some (r1,r2,r3):=H
    have A22:=a_a.mk A220
    clear A220
    simp only [Option.some.injEq,Prod.mk.injEq] at H
    obtain ⟨rfl,rfl,rfl⟩:=H
    have h_y:=c_U.out
    have h_z:=c_T.out
    have j_5:=d_r.out
    have j_6:=d_s.out
    have i_g : wc.cell? ⟨d_y,0,none⟩ = some (.slice A1_0 l1_0.length c1_0):=(a_h c_j.out 0).trans rfl
    have i_h:=a_f c_j.out 0
    have h_M:=c_V.out
    have h_N:=c_W.out
    have f_x : wc.cell? ⟨b_N,0,none⟩ = some (.int .i64 a0_0):=(a_h a_5.out 0).trans rfl
    have i_i : wc.cell? ⟨b_N,1,none⟩ = some (.int .i64 a0_1):=(a_h a_5.out 1).trans rfl
    have i_j : wc.cell? ⟨b_N,2,none⟩ = some (.int .i64 a0_2):=(a_h a_5.out 2).trans rfl
    have i_k : wc.cell? ⟨b_N,3,none⟩ = some (.int .i64 a0_3):=(a_h a_5.out 3).trans rfl
    have i_l : wc.cell? ⟨b_N,4,none⟩ = some (.int .u32 a0_4):=(a_h a_5.out 4).trans rfl
    have f_y:=a_f a_5.out 0
    have i_m:=a_f a_5.out 1
    have i_n:=a_f a_5.out 2
    have i_o:=a_f a_5.out 3
    have i_p:=a_f a_5.out 4
    go_wp2_with (first|((with_reducible refine a_x (f:=13) rfl ?_);refine a_Y (some 42) rfl rfl Tryd.func13 (by kernel_rfl) rfl #[.agg #[.slice A1_0 l1_0.length c1_0],.int .i64 a0_1,.int .i64 a0_2] rfl (by (try simp only [List.map_toArray,List.map_cons,List.map_nil]);first|done|rfl|(simp only [List.length_drop,List.length_take];rfl)) ?_;(with_reducible refine (a_X.calls kj2 _ _ l1_0 a0_1 a0_2 t145 t148 _ ?side1 ?side2 A22.out).mono ?_);(case side1 => repeat (first|exact (Kd.a_K g_u.out HB.out)|(with_reducible refine Kd.a_4 ?_ _)|(with_reducible refine Kd.a_6 ?_ _)|(with_reducible refine Kd.b_a ?_)));(case side2 => exact g_v.out);rintro e w28 ⟨v146,rfl,ho0,hb⟩;refine ⟨_,rfl,?_⟩;have h_j:=a_a.mk (Kd.a_0 ho0 (a_r (by repeat (first|(with_reducible first|exact HB.out|apply a_e|apply a_c|apply a_g|refine a_d ?_ c_w.out|refine a_d ?_ c_S.out|refine a_d ?_ d_q.out)|exact HB.out))));replace a_5:=a_a.mk (a_b (bup_ a_5.out) hb);replace c_j:=a_a.mk (a_b (bup_ c_j.out) hb);replace b_5:=a_a.mk (a_b (bup_ b_5.out) hb);replace HB:=a_a.mk (a_i (by repeat (first|(with_reducible first|exact HB.out|apply a_e|apply a_c|apply a_g|refine a_d ?_ c_w.out|refine a_d ?_ c_S.out|refine a_d ?_ d_q.out)|exact HB.out)) hb);(try clear hb);(try clear hb2);(try clear hk);(try clear hi);(try clear ho0);obtain ⟨Ao29,co29,eo29⟩:=Kd.a_W h_j.out;subst eo29;have g_y : w28.cell? ⟨c_k,0,none⟩ = some (.slice none 0 0):=(a_h b_5.out 0).trans rfl;have g_z:=a_f b_5.out 0))
    refine bodyPost_ret (b_f rfl _ _ c_k 26 #[.slice Ao29 t145.length co29] (0,0) _ rfl (by (with_reducible repeat (first|refine a_o ?_ _|refine a_m ?_|refine a_p ?_ _));refine a_D (cs:=#[.slice Ao29 t145.length co29]) ?_ 0 _ rfl;(with_reducible repeat (first|refine a_o ?_ _|refine a_m ?_|refine a_p ?_ _));refine a_D (cs:=#[.slice none 0 0]) ?_ 0 _ rfl;(with_reducible repeat (first|refine a_o ?_ _|refine a_m ?_|refine a_p ?_ _));exact b_5.out) Tryd.underlying26 rfl (by kernel_rfl)) rfl ?_
    exact ⟨_,by first|rfl|(simp [a_y,a_z] <;> rfl)|(simp [*, a_y,a_z] <;> rfl),by (with_reducible repeat (first|apply Kd.a_Q|apply Kd.a_M|apply Kd.a_P));exact Kd.a_V (Kd.a_O (p:=⟨c_k,0,none⟩) (Kd.a_O (p:=⟨c_k,0,none⟩) (Kd.a_R h_j.out b_5.out (by decide)) (fun _ hk => hk.2) (.slice Ao29 t145.length co29)) (fun _ hk => hk.2) (.slice Ao29 t145.length co29)) (fun _ hk => trivial),by repeat (first|(with_reducible first|exact HB.out|apply a_e|apply a_c|apply a_g|refine a_d ?_ c_w.out|refine a_d ?_ c_S.out|refine a_d ?_ d_q.out)|exact HB.out)⟩
   rw [if_neg c21] at H
   have c21b0 : ((Int.tmod (IntKind.u64.wrap (a0_0)) 6) == 2) = false:=beq_eq_false_iff_ne.mpr c21
   have c21b1 : ((Int.tmod (IntKind.u64.wrap (a0_0)) 6) != 2) = true:=bne_iff_ne.mpr c21
   replace H:=Option.bind_eq_some_iff.mp H
   obtain ⟨⟨t149,t152,t153⟩,A310,H⟩:=H
   replace H : (some (t149,t152,t153)) = some (r1,r2,r3):=H
   have A31:=a_a.mk A310
   clear A310
   simp only [Option.some.injEq,Prod.mk.injEq] at H
   obtain ⟨rfl,rfl,rfl⟩:=H
   have h_P:=c_U.out
   have h_Q:=c_T.out
   have h_R:=d_r.out
   have h_S:=d_s.out
   have g_s : wc.cell? ⟨d_y,0,none⟩ = some (.slice A1_0 l1_0.length c1_0):=(a_h c_j.out 0).trans rfl
   have g_t:=a_f c_j.out 0
   have i_q:=c_V.out
   have i_r:=c_W.out
   have i_s : wc.cell? ⟨b_N,0,none⟩ = some (.int .i64 a0_0):=(a_h a_5.out 0).trans rfl
   have i_t : wc.cell? ⟨b_N,1,none⟩ = some (.int .i64 a0_1):=(a_h a_5.out 1).trans rfl
   have i_u : wc.cell? ⟨b_N,2,none⟩ = some (.int .i64 a0_2):=(a_h a_5.out 2).trans rfl
   have i_v : wc.cell? ⟨b_N,3,none⟩ = some (.int .i64 a0_3):=(a_h a_5.out 3).trans rfl
   have i_w : wc.cell? ⟨b_N,4,none⟩ = some (.int .u32 a0_4):=(a_h a_5.out 4).trans rfl
   have i_x:=a_f a_5.out 0
   have i_y:=a_f a_5.out 1
   have i_z:=a_f a_5.out 2
   have i_A:=a_f a_5.out 3
   have i_B:=a_f a_5.out 4
   go_wp2_with (first|((with_reducible refine a_x (f:=10) rfl ?_);refine a_Y (some 17) rfl rfl Tryd.func10 (by kernel_rfl) rfl #[.agg #[.slice A1_0 l1_0.length c1_0],.int .i64 a0_3,.int .i64 a0_2] rfl (by (try simp only [List.map_toArray,List.map_cons,List.map_nil]);first|done|rfl|(simp only [List.length_drop,List.length_take];rfl)) ?_;(with_reducible refine (a_H.calls kj2 _ _ l1_0 a0_3 a0_2 t149 t152 t153 _ ?side1 ?side2 A31.out).mono ?_);(case side1 => repeat (first|exact (Kd.a_K g_u.out HB.out)|(with_reducible refine Kd.a_4 ?_ _)|(with_reducible refine Kd.a_6 ?_ _)|(with_reducible refine Kd.b_a ?_)));(case side2 => exact g_v.out);rintro e w37 ⟨v150,rfl,ho0,hb⟩;refine ⟨_,rfl,?_⟩;have h_k:=a_a.mk (Kd.a_0 ho0 (a_r (by repeat (first|(with_reducible first|exact HB.out|apply a_e|apply a_c|apply a_g|refine a_d ?_ c_w.out|refine a_d ?_ c_S.out|refine a_d ?_ d_q.out)|exact HB.out))));replace a_5:=a_a.mk (a_b (bup_ a_5.out) hb);replace c_j:=a_a.mk (a_b (bup_ c_j.out) hb);replace b_5:=a_a.mk (a_b (bup_ b_5.out) hb);replace HB:=a_a.mk (a_i (by repeat (first|(with_reducible first|exact HB.out|apply a_e|apply a_c|apply a_g|refine a_d ?_ c_w.out|refine a_d ?_ c_S.out|refine a_d ?_ d_q.out)|exact HB.out)) hb);(try clear hb);(try clear hb2);(try clear hk);(try clear hi);(try clear ho0);obtain ⟨Ao38,co38,eo38⟩:=Kd.a_W h_k.out;subst eo38;have g_A : w37.cell? ⟨c_k,0,none⟩ = some (.slice none 0 0):=(a_h b_5.out 0).trans rfl;have g_B:=a_f b_5.out 0))
   refine bodyPost_ret (b_f rfl _ _ c_k 26 #[.slice Ao38 t149.length co38] (0,0) _ rfl (by (with_reducible repeat (first|refine a_o ?_ _|refine a_m ?_|refine a_p ?_ _));refine a_D (cs:=#[.slice Ao38 t149.length co38]) ?_ 0 _ rfl;(with_reducible repeat (first|refine a_o ?_ _|refine a_m ?_|refine a_p ?_ _));refine a_D (cs:=#[.slice none 0 0]) ?_ 0 _ rfl;(with_reducible repeat (first|refine a_o ?_ _|refine a_m ?_|refine a_p ?_ _));exact b_5.out) Tryd.underlying26 rfl (by kernel_rfl)) rfl ?_
   exact ⟨_,by first|rfl|(simp [a_y,a_z] <;> rfl)|(simp [*, a_y,a_z] <;> rfl),by (with_reducible repeat (first|apply Kd.a_Q|apply Kd.a_M|apply Kd.a_P));exact Kd.a_V (Kd.a_O (p:=⟨c_k,0,none⟩) (Kd.a_O (p:=⟨c_k,0,none⟩) (Kd.a_R h_k.out b_5.out (by decide)) (fun _ hk => hk.2) (.slice Ao38 t149.length co38)) (fun _ hk => hk.2) (.slice Ao38 t149.length co38)) (fun _ hk => trivial),by repeat (first|(with_reducible first|exact HB.out|apply a_e|apply a_c|apply a_g|refine a_d ?_ c_w.out|refine a_d ?_ c_S.out|refine a_d ?_ d_q.out)|exact HB.out)⟩
end Go.Proofs.YtkhbffjfclepfaaDoor.Q
end
section
namespace Go.Proofs.YtkhbffjfclepfaaDoor.Q
open Go.RowKit Go.Proofs.YtkhbffjfclepfaaDoorW.PrintWords Go.Proofs.YtkhbffjfclepfaaDoorW.PrintLast Go.Proofs.YtkhbffjfclepfaaDoorW.PrintMore
set_option linter.unusedVariables false
set_option linter.unusedSimpArgs false
def b_d.f (k : Nat) (l0_0 : List Int) (a1 : Int) : Option (Int):=(a_n.f k l0_0).bind fun t155 => (if t155 = 0 then ((a_F.f l0_0 (([a1] : List Int))).bind fun t159 => (if t159 = true then (if 0 ≤ a1 then (if a1 < (l0_0.length : Int) then (some (rd l0_0 a1)) else (none)) else (none)) else (some 0))) else (some 0))
theorem b_d.mono : ∀ a0 a1 k,LeO (b_d.f k a0 a1) (b_d.f (k + 1) a0 a1):=by
 intro a0 a1 k
 unfold b_d.f
 repeat' first
  | (with_reducible exact a_n.mono _ _)
  | (with_reducible exact LeO.refl _)
  | (with_reducible exact LeO.none _)
  | (with_reducible refine LeO.ite ?_ ?_)
  | (with_reducible refine LeO.bind ?_ (fun _ => ?_))
  | exact a_n.mono _ _
  | exact LeO.none _
  | refine LeO.ite ?_ ?_
  | refine LeO.bind ?_ (fun _ => ?_)
set_option maxHeartbeats 8000000 in
set_option maxRecDepth 100000 in
theorem b_d.calls (k : Nat) (A0_0 : Option Addr) (c0_0 : Nat) (l0_0 : List Int) (a1 : Int) (r : Int) (w : World) (hr0_0 : Kd.C (Kd.int .u32) w A0_0 l0_0.length l0_0) (hc0_0 : l0_0.length ≤ c0_0) (h : b_d.f k l0_0 a1 = some r) :
 Calls Tryd.prog 14 #[.agg #[.slice A0_0 l0_0.length c0_0],.int .i64 a1] w fun e w' => e = .returned (.int .u32 r) ∧ Below w.heap.size w w':=by
 have hu26:=Tryd.underlying26
 have b_G:=a_a.mk hr0_0
 have b_U:=a_a.mk hc0_0
 clear hr0_0 hc0_0
 have HB:=a_a.mk (Below.refl w.heap.size w)
 have H : ((a_n.f k l0_0).bind fun t155 => (if t155 = 0 then ((a_F.f l0_0 (([a1] : List Int))).bind fun t159 => (if t159 = true then (if 0 ≤ a1 then (if a1 < (l0_0.length : Int) then (some (rd l0_0 a1)) else (none)) else (none)) else (some 0))) else (some 0))) = some r:=h
 clear h
 replace H:=Option.bind_eq_some_iff.mp H
 obtain ⟨t155,A30,H⟩:=H
 replace H : (if t155 = 0 then ((a_F.f l0_0 (([a1] : List Int))).bind fun t159 => (if t159 = true then (if 0 ≤ a1 then (if a1 < (l0_0.length : Int) then (some (rd l0_0 a1)) else (none)) else (none)) else (some 0))) else (some 0)) = some r:=H
 have A3:=a_a.mk A30
 clear A30
 by_cases c4 : t155 = 0
 rotate_left
 ·rw [if_neg c4] at H
  have c4b0 : (t155 == 0) = false:=beq_eq_false_iff_ne.mpr c4
  have c4b1 : (t155 != 0) = true:=bne_iff_ne.mpr c4
  obtain rfl:=Option.some.inj H
  go_enter Tryd.func14,Tryd.ntmps14
  go_wp2_with (first|((with_reducible refine a_u (N:=2) rfl ?_);(try (refine b_r (by rfl) ?_;dsimp only));refine a_t ?hg (N:=2) ?hd (cs:=#[.slice A0_0 l0_0.length c0_0]) (t:=26) ?hr ?_;(case hd => rfl);(case hg => rfl);(case hr => first|(go_simp;done)|(go_simp;rfl));intro c_X hg w26 hbox hb;have b_L:=a_a.mk (hbox);have h_l:=a_a.mk ((by rw [hg];exact (a_r (lup_ HB.out)) : w.heap.size ≤ c_X));have c_Y:=a_a.mk ((by rw [hg];exact (a_r (lup_ HB.out)) : w.heap.size ≤ c_X));replace HB:=a_a.mk (a_i (lup_ HB.out) hb);clear hb hbox hg;have f_x : w26.cell? ⟨c_X,0,none⟩ = some (.slice A0_0 l0_0.length c0_0):=(a_h b_L.out 0).trans rfl;have f_y:=a_f b_L.out 0)|((with_reducible refine a_x (f:=12) rfl ?_);refine a_Y (some 6) rfl rfl Tryd.func12 (by kernel_rfl) rfl #[.agg #[.slice A0_0 l0_0.length c0_0]] rfl (by (try simp only [List.map_toArray,List.map_cons,List.map_nil]);first|done|rfl|(simp only [List.length_drop,List.length_take];rfl)) ?_;(with_reducible refine (a_n.calls k _ _ l0_0 t155 _ ?side1 ?side2 A3.out).mono ?_);(case side1 => repeat (first|exact (Kd.a_K b_G.out HB.out)|(with_reducible refine Kd.a_4 ?_ _)|(with_reducible refine Kd.a_6 ?_ _)|(with_reducible refine Kd.b_a ?_)));(case side2 => exact b_U.out);rintro e w28 ⟨rfl,hb⟩;refine ⟨_,rfl,?_⟩;replace b_L:=a_a.mk (a_b (bup_ b_L.out) hb);replace HB:=a_a.mk (a_i (by repeat (first|(with_reducible first|exact HB.out|apply a_e|apply a_c|apply a_g|refine a_d ?_ c_Y.out)|exact HB.out)) hb);(try clear hb);(try clear hb2);(try clear hk);(try clear hi)))
  go_ret
  exact ⟨by first|rfl|(simp [a_y,a_z] <;> rfl)|(simp [*, a_y,a_z] <;> rfl),by repeat (first|(with_reducible first|exact HB.out|apply a_e|apply a_c|apply a_g|refine a_d ?_ c_Y.out)|exact HB.out)⟩
 rw [if_pos c4] at H
 have c4b0 : (t155 == 0) = true:=beq_iff_eq.mpr c4
 have c4b1 : (t155 != 0) = false:=bne_eq_false_iff_eq.mpr c4
 clear c4
 obtain ⟨y156,hy156⟩ : ∃ y_ : List Int,y_ = (([a1] : List Int)):=⟨_,rfl⟩
 replace H : ((a_F.f l0_0 y156).bind fun t159 => (if t159 = true then (if 0 ≤ a1 then (if a1 < (l0_0.length : Int) then (some (rd l0_0 a1)) else (none)) else (none)) else (some 0))) = some r:=by first|(rw [hy156];with_reducible exact H)|(have H2_:=(Option.bind_some _ _).symm.trans H;rw [hy156];with_reducible exact H2_)|(have H2_:=(Option.bind_some _ _).symm.trans H;with_reducible exact H2_)|with_reducible exact H|(rw [hy156];exact H)|exact H
 have Ny156:=a_a.mk hy156
 clear hy156
 replace H:=Option.bind_eq_some_iff.mp H
 obtain ⟨t159,A50,H⟩:=H
 replace H : (if t159 = true then (if 0 ≤ a1 then (if a1 < (l0_0.length : Int) then (some (rd l0_0 a1)) else (none)) else (none)) else (some 0)) = some r:=H
 have A5:=a_a.mk A50
 clear A50
 by_cases c6 : t159 = true
 rotate_left
 ·replace c6:=Bool.eq_false_iff.mpr c6
  subst c6
  have H1 : (some 0) = some r:=by rw [if_neg (show ¬ (false = true) by decide)] at H;exact H
  clear H
  have H:=H1
  clear H1
  obtain rfl:=Option.some.inj H
  go_enter Tryd.func14,Tryd.ntmps14
  go_wp2_with (first|((with_reducible refine a_u (N:=2) rfl ?_);(try (refine b_r (by rfl) ?_;dsimp only));refine a_t ?hg (N:=2) ?hd (cs:=#[.slice A0_0 l0_0.length c0_0]) (t:=26) ?hr ?_;(case hd => rfl);(case hg => rfl);(case hr => first|(go_simp;done)|(go_simp;rfl));intro c_X hg w18 hbox hb;have b_L:=a_a.mk (hbox);have h_l:=a_a.mk ((by rw [hg];exact (a_r (lup_ HB.out)) : w.heap.size ≤ c_X));have c_Y:=a_a.mk ((by rw [hg];exact (a_r (lup_ HB.out)) : w.heap.size ≤ c_X));replace HB:=a_a.mk (a_i (lup_ HB.out) hb);clear hb hbox hg;have f_q : w18.cell? ⟨c_X,0,none⟩ = some (.slice A0_0 l0_0.length c0_0):=(a_h b_L.out 0).trans rfl;have f_r:=a_f b_L.out 0)|((with_reducible refine a_x (f:=12) rfl ?_);refine a_Y (some 6) rfl rfl Tryd.func12 (by kernel_rfl) rfl #[.agg #[.slice A0_0 l0_0.length c0_0]] rfl (by (try simp only [List.map_toArray,List.map_cons,List.map_nil]);first|done|rfl|(simp only [List.length_drop,List.length_take];rfl)) ?_;(with_reducible refine (a_n.calls k _ _ l0_0 t155 _ ?side1 ?side2 A3.out).mono ?_);(case side1 => repeat (first|exact (Kd.a_K b_G.out HB.out)|(with_reducible refine Kd.a_4 ?_ _)|(with_reducible refine Kd.a_6 ?_ _)|(with_reducible refine Kd.b_a ?_)));(case side2 => exact b_U.out);rintro e w20 ⟨rfl,hb⟩;refine ⟨_,rfl,?_⟩;replace b_L:=a_a.mk (a_b (bup_ b_L.out) hb);replace HB:=a_a.mk (a_i (by repeat (first|(with_reducible first|exact HB.out|apply a_e|apply a_c|apply a_g|refine a_d ?_ c_Y.out)|exact HB.out)) hb);(try clear hb);(try clear hb2);(try clear hk);(try clear hi);have f_t : w20.cell? ⟨c_X,0,none⟩ = some (.slice A0_0 l0_0.length c0_0):=(a_h b_L.out 0).trans rfl;have f_u:=a_f b_L.out 0)|((with_reducible refine a_u (N:=11) rfl ?_);(try (refine b_r (by rfl) ?_;dsimp only));refine Kd.c_0 (Kd.int .i64) _ 3 ?hg (N:=11) ?hd (xs:=([a1] : List Int)) (inner:=[.int .i64 a1]) (ok:=fun _ => True) (okp:=fun _ => True) ?hr ?hp (fun _ hk => hk) trivial (Below.refl _ _) (Nat.le_refl _) (by simp) ?_;(case hd => rfl);(case hg => rfl);(case hr => first|(go_simp;done)|(go_simp;rfl));(case hp => exact (Reps.one (show Kd.M (Kd.int .i64) _ _ _ a1 [.int .i64 a1] from rfl) (Reps.none _ _)));intro v157 w22 ho23 hb hg_ hnew_;clear hg_ hnew_;(first|rw [← Ny156.out] at ho23|(simp only [Int.reduceToNat] at ho23;rw [← Ny156.out] at ho23));have d_t:=a_a.mk (Kd.a_0 ho23 (a_r (by repeat (first|(with_reducible first|exact HB.out|apply a_e|apply a_c|apply a_g|refine a_d ?_ c_Y.out)|exact HB.out))));replace b_L:=a_a.mk (a_b (bup_ b_L.out) hb);replace HB:=a_a.mk (a_i (by repeat (first|(with_reducible first|exact HB.out|apply a_e|apply a_c|apply a_g|refine a_d ?_ c_Y.out)|exact HB.out)) hb);clear hb ho23;obtain ⟨Ao24,co24,eo24⟩:=Kd.a_W d_t.out;subst eo24)|(go_at_call 25;(with_reducible refine (a_F.calls _ _ l0_0 _ _ y156 false _ ?side1 ?side2 ?side3 ?side4 A5.out).mono ?_);(case side1 => repeat (first|exact (Kd.a_K b_G.out HB.out)|(with_reducible refine Kd.a_4 ?_ _)|(with_reducible refine Kd.a_6 ?_ _)|(with_reducible refine Kd.b_a ?_)));(case side2 => exact b_U.out);(case side3 => repeat (first|exact (Kd.a_B d_t.out).2.2|(with_reducible refine Kd.a_4 ?_ _)|(with_reducible refine Kd.a_6 ?_ _)|(with_reducible refine Kd.b_a ?_)));(case side4 => exact (Kd.a_B d_t.out).2.1);rintro e w25 ⟨rfl,hb⟩;replace d_t:=a_a.mk (Kd.a_G (rup_ d_t.out) hb);replace b_L:=a_a.mk (a_b (bup_ b_L.out) hb);replace HB:=a_a.mk (a_i (by repeat (first|(with_reducible first|exact HB.out|apply a_e|apply a_c|apply a_g|refine a_d ?_ c_Y.out)|exact HB.out)) hb);(try clear hb);(try clear hb2);(try clear hk);(try clear hi)))
  go_ret
  exact ⟨by first|rfl|(simp [a_y,a_z] <;> rfl)|(simp [*, a_y,a_z] <;> rfl),by repeat (first|(with_reducible first|exact HB.out|apply a_e|apply a_c|apply a_g|refine a_d ?_ c_Y.out)|exact HB.out)⟩
 subst c6
 have H1 : (if 0 ≤ a1 then (if a1 < (l0_0.length : Int) then (some (rd l0_0 a1)) else (none)) else (none)) = some r:=by rw [if_pos rfl] at H;exact H
 clear H
 have H:=H1
 clear H1
 by_cases c7 : 0 ≤ a1
 rotate_left
 ·rw [if_neg c7] at H
  exact absurd H (by simp)
 rw [if_pos c7] at H
 have c7b0 : decide (0 ≤ a1) = true:=decide_eq_true c7
 clear c7
 by_cases c8 : a1 < (l0_0.length : Int)
 rotate_left
 ·rw [if_neg c8] at H
  exact absurd H (by simp)
 rw [if_pos c8] at H
 have c8b0 : decide (a1 < (l0_0.length : Int)) = true:=decide_eq_true c8
 clear c8
 obtain rfl:=Option.some.inj H
 go_enter Tryd.func14,Tryd.ntmps14
 go_wp2_with (first|((with_reducible refine a_u (N:=2) rfl ?_);(try (refine b_r (by rfl) ?_;dsimp only));refine a_t ?hg (N:=2) ?hd (cs:=#[.slice A0_0 l0_0.length c0_0]) (t:=26) ?hr ?_;(case hd => rfl);(case hg => rfl);(case hr => first|(go_simp;done)|(go_simp;rfl));intro c_X hg w9 hbox hb;have b_L:=a_a.mk (hbox);have h_l:=a_a.mk ((by rw [hg];exact (a_r (lup_ HB.out)) : w.heap.size ≤ c_X));have c_Y:=a_a.mk ((by rw [hg];exact (a_r (lup_ HB.out)) : w.heap.size ≤ c_X));replace HB:=a_a.mk (a_i (lup_ HB.out) hb);clear hb hbox hg;have g_o : w9.cell? ⟨c_X,0,none⟩ = some (.slice A0_0 l0_0.length c0_0):=(a_h b_L.out 0).trans rfl;have g_p:=a_f b_L.out 0)|((with_reducible refine a_x (f:=12) rfl ?_);refine a_Y (some 6) rfl rfl Tryd.func12 (by kernel_rfl) rfl #[.agg #[.slice A0_0 l0_0.length c0_0]] rfl (by (try simp only [List.map_toArray,List.map_cons,List.map_nil]);first|done|rfl|(simp only [List.length_drop,List.length_take];rfl)) ?_;(with_reducible refine (a_n.calls k _ _ l0_0 t155 _ ?side1 ?side2 A3.out).mono ?_);(case side1 => repeat (first|exact (Kd.a_K b_G.out HB.out)|(with_reducible refine Kd.a_4 ?_ _)|(with_reducible refine Kd.a_6 ?_ _)|(with_reducible refine Kd.b_a ?_)));(case side2 => exact b_U.out);rintro e w11 ⟨rfl,hb⟩;refine ⟨_,rfl,?_⟩;replace b_L:=a_a.mk (a_b (bup_ b_L.out) hb);replace HB:=a_a.mk (a_i (by repeat (first|(with_reducible first|exact HB.out|apply a_e|apply a_c|apply a_g|refine a_d ?_ c_Y.out)|exact HB.out)) hb);(try clear hb);(try clear hb2);(try clear hk);(try clear hi);have d_R : w11.cell? ⟨c_X,0,none⟩ = some (.slice A0_0 l0_0.length c0_0):=(a_h b_L.out 0).trans rfl;have d_S:=a_f b_L.out 0)|((with_reducible refine a_u (N:=11) rfl ?_);(try (refine b_r (by rfl) ?_;dsimp only));refine Kd.c_0 (Kd.int .i64) _ 3 ?hg (N:=11) ?hd (xs:=([a1] : List Int)) (inner:=[.int .i64 a1]) (ok:=fun _ => True) (okp:=fun _ => True) ?hr ?hp (fun _ hk => hk) trivial (Below.refl _ _) (Nat.le_refl _) (by simp) ?_;(case hd => rfl);(case hg => rfl);(case hr => first|(go_simp;done)|(go_simp;rfl));(case hp => exact (Reps.one (show Kd.M (Kd.int .i64) _ _ _ a1 [.int .i64 a1] from rfl) (Reps.none _ _)));intro v157 w13 ho14 hb hg_ hnew_;clear hg_ hnew_;(first|rw [← Ny156.out] at ho14|(simp only [Int.reduceToNat] at ho14;rw [← Ny156.out] at ho14));have d_t:=a_a.mk (Kd.a_0 ho14 (a_r (by repeat (first|(with_reducible first|exact HB.out|apply a_e|apply a_c|apply a_g|refine a_d ?_ c_Y.out)|exact HB.out))));replace b_L:=a_a.mk (a_b (bup_ b_L.out) hb);replace HB:=a_a.mk (a_i (by repeat (first|(with_reducible first|exact HB.out|apply a_e|apply a_c|apply a_g|refine a_d ?_ c_Y.out)|exact HB.out)) hb);clear hb ho14;obtain ⟨Ao15,co15,eo15⟩:=Kd.a_W d_t.out;subst eo15)|(go_at_call 25;(with_reducible refine (a_F.calls _ _ l0_0 _ _ y156 true _ ?side1 ?side2 ?side3 ?side4 A5.out).mono ?_);(case side1 => repeat (first|exact (Kd.a_K b_G.out HB.out)|(with_reducible refine Kd.a_4 ?_ _)|(with_reducible refine Kd.a_6 ?_ _)|(with_reducible refine Kd.b_a ?_)));(case side2 => exact b_U.out);(case side3 => repeat (first|exact (Kd.a_B d_t.out).2.2|(with_reducible refine Kd.a_4 ?_ _)|(with_reducible refine Kd.a_6 ?_ _)|(with_reducible refine Kd.b_a ?_)));(case side4 => exact (Kd.a_B d_t.out).2.1);rintro e w16 ⟨rfl,hb⟩;replace d_t:=a_a.mk (Kd.a_G (rup_ d_t.out) hb);replace b_L:=a_a.mk (a_b (bup_ b_L.out) hb);replace HB:=a_a.mk (a_i (by repeat (first|(with_reducible first|exact HB.out|apply a_e|apply a_c|apply a_g|refine a_d ?_ c_Y.out)|exact HB.out)) hb);(try clear hb);(try clear hb2);(try clear hk);(try clear hi);have e_r : w16.cell? ⟨c_X,0,none⟩ = some (.slice A0_0 l0_0.length c0_0):=(a_h b_L.out 0).trans rfl;have e_s:=a_f b_L.out 0;have p160 : 0 ≤ (a1 : Int):=of_decide_eq_true (by first|(with_reducible assumption)|assumption);have q160 : a1 < (l0_0.length : Int):=of_decide_eq_true (by first|(with_reducible assumption)|assumption);obtain ⟨ad160,e160,e_v⟩:=Kd.b_X b_G.out a1 p160 q160;cases e160;replace e_v:=(HB.out.cell (World.block_lt_of_cell? w _ e_v)).trans e_v;replace p160:=eq_true p160;replace q160:=eq_true q160))
 go_ret
 exact ⟨by first|rfl|(simp [a_y,a_z] <;> rfl)|(simp [*, a_y,a_z] <;> rfl),by repeat (first|(with_reducible first|exact HB.out|apply a_e|apply a_c|apply a_g|refine a_d ?_ c_Y.out)|exact HB.out)⟩
end Go.Proofs.YtkhbffjfclepfaaDoor.Q
end
section
namespace Go.Proofs.YtkhbffjfclepfaaDoor.Q
open Go.RowKit Go.Proofs.YtkhbffjfclepfaaDoorW.PrintWords Go.Proofs.YtkhbffjfclepfaaDoorW.PrintLast Go.Proofs.YtkhbffjfclepfaaDoorW.PrintMore
set_option linter.unusedVariables false
set_option linter.unusedSimpArgs false
set_option maxHeartbeats 1000000 in
theorem f_g (x k idx : Nat) (w : World) (hx0 : ((x : Int) == 0) = false)
 (key : bits BinOp.and IntKind.u32 (x : Int) (-(x : Int) % 4294967296) * 125613361 % 4294967296 / 134217728 = (idx : Int))
 (hi : idx < 32) (hk : k < 32) (hcell : w.cell? ⟨0,idx,none⟩ = some (.int .u8 k)) :
 Calls Tryd.prog 37 #[.int .u32 x] w fun e w' => e = .returned (.int .i64 k) ∧ w' = w:=by
 go_enter Tryd.func37,Tryd.ntmps37
 go_wp2_with (simp only [key])
 go_ret
 exact ⟨rfl,rfl⟩
theorem e_S (x : Nat) (hx0 : x ≠ 0) (hx : x < 4294967296) (w : World) (ht : b_Q w) :
 Calls Tryd.prog 37 #[.int .u32 x] w fun e w' => e = .returned (.int .i64 ((Lib.ctz 32 x : Nat) : Int)) ∧ w' = w:=by
 obtain ⟨hlow,hk⟩:=Lib.lowest_bit 32 x hx0 hx
 obtain ⟨hi,htab⟩:=Lib.deBruijn32_at _ hk
 have hcell:=ht _ hi
 rw [htab] at hcell
 exact f_g x _ _ w (by simp;omega) (tz32_key x _ hx hx0 hlow) hi hk hcell
end Go.Proofs.YtkhbffjfclepfaaDoor.Q
end
section
namespace Go.Proofs.YtkhbffjfclepfaaDoor.Q
open Go.RowKit Go.Proofs.YtkhbffjfclepfaaDoorW.PrintWords Go.Proofs.YtkhbffjfclepfaaDoorW.PrintLast Go.Proofs.YtkhbffjfclepfaaDoorW.PrintMore
set_option linter.unusedVariables false
set_option linter.unusedSimpArgs false
section
attribute [local go_sem] Oper.semAt_some
theorem c_r {W : World} {gb k : Nat} {v : Value} (h : k ≠ gb) : (W.setCell ⟨gb,0,none⟩ v).heap[k]? = W.heap[k]?:=Below.heap_setCell W ⟨gb,0,none⟩ v k h
def e_y {α : Type} (F : Fence) (m : Nat) (P : Program) (gf : Nat) (lb : Array Value) (encs : α → Array Value) (Kp : World → World → Prop) (gb : Nat) (S : List α → Prop) (N : Nat) (w0 : World) : Prop :=
 ∀ (l : Nat) (J : List α → World → Prop) (W : World),Below w0.heap.size w0 W → AbidesFrom W.heap.size J → (∀ s A v,J s A → J s (A.setCell ⟨gb,0,none⟩ v)) →
  (∀ pre x W1,J pre W1 → pre.length < N → YieldAt F (m - 1) P l (encs x) W1 fun e W' => e = .returned (.bool true) ∧ J (pre ++ [x]) W' ∧ Kp W1 W') → J [] W →
  CallsIn F m P gf (#[.func (.yield l) #[] #[]] ++ lb) W fun e W' => (∃ v,e = .returned v) ∧ ∃ xs,S xs ∧ J xs W'
theorem c_7 {F : Fence} {n : Nat} {P : Program} {α : Type} {g : Operand} {ps : Array Tmp} {assign body : Code} {Q : Exit → Act → World → Prop} {a : Act} {w : World}
 (hro : F.round = none) (h1 : 1 ≤ n) {gf : Nat} {lb : Array Value} (hg : a.eval g = .func (.func gf) #[] lb) (hFg : F.fn gf) (eg : ∀ args w,(callFunc gf args).run P w = .ok (.enter gf args) w)
 {encs : α → Array Value} {Kp : World → World → Prop} {S : List α → Prop} {N gb : Nat} {w0 : World} (hseq : e_y F (n - 1) P gf lb encs Kp gb S N w0) (hgb : gb < w.heap.size)
 (hKt : ∀ {A B C : World}, Kp A B → Kp B C → Kp A C) (hKb : ∀ (W : World) (l : Nat) (o o' : Obj),w.heap.size ≤ l → W.heap[l]? = some o → o.isCells = false → o.isWalk = false → Kp W (W.putObj l o')) (hb0 : Below w0.heap.size w0 w) (hps : ∀ x,(encs x).size = ps.size)
 (I : List α → World → Prop) (hI : OwnFrom w.heap.size I) (hIb : ∀ s A v,I s A → I s (A.setCell ⟨gb,0,none⟩ v)) (h0 : I [] w) (a₁ : α → Act)
 (hassign : ∀ (l : Nat) (x : α) (W : World) (K : Act → World → Prop),K (a₁ x) W →
  assign.wpIn (F.inRound l) (n - 1 - 1) P (Exit.then K (fun _ _ _ => False)) { tmps:=(ps.zip (encs x)).foldl (fun t (p,v) => t.setIfInBounds p v) a.tmps,defers:=[] } W)
 (hbody : ∀ (l : Nat) (pre : List α) (x : α) (W : World),I pre W → pre.length < N → body.wpIn (F.inRound l) (n - 1 - 1) P (Exit.then (fun _ W' => KeepsFrom w.heap.size W W' ∧ Kp W W' ∧ I (pre ++ [x]) W') (fun _ _ _ => False)) (a₁ x) W)
 (hdone : ∀ (D : Nat) (xs : List α) (W : World),w.heap.size ≤ D → S xs → I xs W → W.heap[D]? = some (.deferred (some [])) → Q .normal { a with defers := { target:=.collected D,args:=#[] } :: a.defers } W) :
 (Code.rangeFunc g ps assign body).wpIn F n P Q a w:=by
 refine wpIn_rangeFunc fun fn hfn => ?_
 rw [hro]
 obtain ⟨rec,hrec⟩ : ∃ rec : LoopState → Option Code → Loop,rec = fun st pe => { state:=st,pending:=pe,fn,tmps:=a.tmps,params:=ps,assign,body,defers:=w.heap.size } := ⟨_,rfl⟩
 have hL0 : ((w.alloc (.deferred (some []))).alloc (.loop (rec .ready none))).heap[w.heap.size + 1]? = some (.loop (rec .ready none)):=by
  have:=World.alloc_heap_new (w.alloc (.deferred (some []))) (.loop (rec .ready none));rwa [World.size_alloc] at this
 have hD0 : ((w.alloc (.deferred (some []))).alloc (.loop (rec .ready none))).heap[w.heap.size]? = some (.deferred (some [])):=(Below.heap_alloc _ _ _ (by simp)).trans (World.alloc_heap_new w _)
 have hI0 : I [] ((w.alloc (.deferred (some []))).alloc (.loop (rec .ready none))):=hI.alloc _ (hI.alloc _ h0)
 have hB0 : Below w0.heap.size w0 ((w.alloc (.deferred (some []))).alloc (.loop (rec .ready none))):=hb0.trans ((((Below.refl _ w).alloc (Nat.le_refl _) _).alloc (by simp) _).mono hb0.size)
 have hZ0 : ((w.alloc (.deferred (some []))).alloc (.loop (rec .ready none))).heap.size = w.heap.size + 2:=by simp
 have hent:=run_enterLoop_outer (P:=P) (w:=w) fn a.tmps ps assign body
 rw [show (Loop.mk .ready none fn a.tmps ps assign body w.heap.size) = rec .ready none by rw [hrec]] at hent
 generalize (w.alloc (.deferred (some []))).alloc (.loop (rec .ready none)) = W1 at *
 refine ⟨w.heap.size + 1,[{ target:=.collected w.heap.size,args:=#[] }],W1, { target:=.fn (.func gf) lb,args:=#[.func (.yield (w.heap.size + 1)) #[] #[]] }, W1,gf,#[.func (.yield (w.heap.size + 1)) #[] #[]] ++ lb,W1,hent,?_,?_,?_,fun _ => h1,?_⟩
 ·simp only [resolve,hg];simp [go_sem]
 ·intro f' hf';simp [Target.leads] at hf';subst hf';exact hFg
 ·simp [invoke,go_sem,eg]
 refine (hseq (w.heap.size + 1) (fun pre W => I pre W ∧ W.heap[w.heap.size + 1]? = some (.loop (rec .ready none)) ∧ W.heap[w.heap.size]? = some (.deferred (some []))) W1 hB0 ?_ ?_ ?_ ⟨hI0,hL0,hD0⟩).mono ?_
 ·intro s A B row hs hg' hr
  have hr' : ∀ r,row = some r → ∃ o : Obj,A.heap[r]? = some o ∧ o.isWalk = true:=fun r e => (hr r e).2
  exact ⟨hI s A B row hs.1 hg' (fun r e => by obtain ⟨hB,o,ho,hw⟩:=hr r e;exact ⟨by omega,o,ho,Obj.not_cells_of_walk hw⟩),(grownBy_keeps hg' hr' hs.2.1 rfl).trans hs.2.1,(grownBy_keeps hg' hr' hs.2.2 rfl).trans hs.2.2⟩
 ·intro s A v hs
  exact ⟨hIb s A v hs.1,(c_r (by omega)).trans hs.2.1,(c_r (by omega)).trans hs.2.2⟩
 ·rintro pre x W ⟨hi,hl,hk⟩ hlen
  have hlt : w.heap.size + 1 < W.heap.size:=(Array.getElem?_eq_some_iff.1 hl).1
  have hy:=run_yield (P:=P) (args:=encs x) hl (by rw [hrec];exact hps x)
  rw [hrec] at hy
  refine ⟨fn,_,assign,body,hy,roundIn_of_wpIn hfn (hassign _ x W _ ⟨_,run_beginRound hl (by rw [hrec]),?_⟩)⟩
  have hl2 : (W.putObj (w.heap.size + 1) (.loop { rec .ready none with state:=.busy })).heap[w.heap.size + 1]? = some (.loop { rec .ready none with state:=.busy }):=World.putObj_heap_same hlt
  have hk2 : (W.putObj (w.heap.size + 1) (.loop { rec .ready none with state:=.busy })).heap[w.heap.size]? = some (.deferred (some [])):=(World.putObj_heap_other (by omega)).trans hk
  refine wpIn_mono (hbody _ pre x _ (hI.putObj _ hi (by omega) hl rfl) hlen) ?_
  intro e a3 W3 hp
  cases e with
  | normal =>
   obtain ⟨hk3,hkp3,hi3⟩:=hp
   have hl3:=hk3.same _ _ (by omega) hl2 rfl
   have hend:=run_endRound (P:=P) none hl3
   rw [hrec] at hend
   rw [hrec] at hl3
   exact ⟨_,_,hend,rfl,⟨hI.putObj _ hi3 (by omega) hl3 rfl,by rw [hrec];exact World.putObj_heap_same (Array.getElem?_eq_some_iff.1 hl3).1,(World.putObj_heap_other (by omega)).trans (hk3.same _ _ (Nat.le_refl _) hk2 rfl)⟩,hKt (hKt (hKb _ _ _ _ (by omega) hl rfl rfl) hkp3) (hKb _ _ _ _ (by omega) hl3 rfl rfl)⟩
  | ret => exact hp.elim
  | exit id => exact hp.elim
  | goto t => exact hp.elim
  | panic ch => exact hp.elim
  | outgrown => exact hp.elim
 rintro e W2 ⟨⟨v,rfl⟩,xs,hS,hi,hl,hk⟩
 exact ⟨none,_,by have:=run_endLoop (P:=P) hl (by rw [hrec];simp);rw [hrec] at this;exact this,hdone _ xs _ (Nat.le_refl _) hS (hI.putObj _ hi (by omega) hl rfl) ((World.putObj_heap_other (by omega)).trans hk)⟩
def CpK (n₀ g : Nat) (A C : World) : Prop:=Below n₀ A C ∧ C.heap[g]? = A.heap[g]?
theorem CpK.trans {n₀ g : Nat} {A B C : World} (h : CpK n₀ g A B) (k : CpK n₀ g B C) : CpK n₀ g A C:=⟨h.1.trans k.1,k.2.trans h.2⟩
def f_c (w : World) (g : Nat) : Nat:=match w.cell? ⟨g,0,none⟩ with|some (.int _ z) => z.toNat|_ => 0
theorem d_1 {w : World} {g m : Nat} (h : w.cell? ⟨g,0,none⟩ = some (.int .u32 (m : Int))) : f_c w g = m:=by unfold f_c;rw [h];simp
theorem e_k (m : Nat) (h : m ≠ 0) : m &&& (m - 1) < m:=Nat.lt_of_le_of_lt Nat.and_le_right (by omega)
set_option maxRecDepth 100000 in
set_option maxHeartbeats 4000000 in
theorem d_H (n : Nat) (hn : 2 ≤ n) (g n₀ s : Nat) (hs : s < 4294967296) (w : World) (hn₀ : n₀ ≤ w.heap.size) (hgn : n₀ ≤ g) (hb0 : w.heap[g]? = some (.cells #[.int .u32 (s : Int)] 32 (0,0))) (ht : b_Q w) (h0n : 0 < n₀) :
 e_y Fence.wide n Tryd.prog 36 #[.pointer (some ⟨g,0,none⟩)] (fun x : Nat => #[.int .i64 (x : Int)]) (CpK n₀ g) g (fun xs => xs = b_1 (s &&& 255)) 8 w:=by
 intro l J W hW hJ hJg hY h0
 refine callsIn_of_wp Tryd.func36 rfl trivial ?_ rfl
 simp only [Tryd.ntmps36,List.size_toArray,List.length_cons,List.length_nil,Nat.reduceAdd,Nat.reduceSub,Array.replicate_succ,Array.replicate_zero,List.push_toArray,List.append_toArray,List.nil_append,List.cons_append]
 have hg : W.heap[g]? = some (.cells #[.int .u32 (s : Int)] 32 (0,0)):=(hW.block g (a_k hb0)).trans hb0
 have hT : b_Q W:=ht.below hW
 have hc:=(a_h hg 0).trans rfl
 have hf:=a_f hg 0
 have HY:=a_a.mk hY
 have HJ:=a_a.mk hJ
 have HJG:=a_a.mk hJg
 have HT:=a_a.mk hT
 have H0:=a_a.mk h0
 have HG:=a_a.mk hg
 have HE : bits .and .u32 (s : Int) 255 = ((s &&& 255 : Nat) : Int):=bits_and_u32_nat s 255 hs (by decide)
 clear hY hJ hJg hg hT ht h0 hb0 hW
 gi_wp2_with (simp only [HE])
 gi_loopw [5] (fun _ wr => ∃ (pre : List Nat) (m : Nat),m < 256 ∧ a_a (b_1 (s &&& 255) = pre ++ b_1 m) ∧ a_a (J pre wr) ∧ a_a (Below n₀ W wr) ∧ a_a (wr.heap[g]? = some (.cells #[.int .u32 (m : Int)] 32 (0,0))))
  (fun _ wr => f_c wr g)
 case atStart => exact ⟨[],s &&& 255,Nat.lt_succ_of_le Nat.and_le_right,⟨rfl⟩,⟨HJG.out _ _ _ H0.out⟩,⟨(Below.refl _ _).setCell (p:=⟨g,0,none⟩) hgn _⟩,⟨a_D HG.out 0 _ rfl⟩⟩
 case round =>
  obtain ⟨pre,m,hm,HL,HJs,HB,HG2⟩:=hrel
  have hmc : wr.cell? ⟨g,0,none⟩ = some (.int .u32 (m : Int)):=(a_h HG2.out 0).trans rfl
  by_cases hm0 : m = 0
  ·subst hm0
   gi_wp2
   go_end0
   exact ⟨⟨_,rfl⟩,_,by have:=HL.out;rw [e_N,List.append_nil] at this;exact this.symm,HJs.out⟩
  have hne : ((m : Int) != 0) = true:=by simp;omega
  have hstep:=e_U m hm hm0
  have hlen : pre.length < 8:=by
   have h1:=e_c (s &&& 255)
   rw [HL.out,hstep,List.length_append,List.length_cons] at h1
   omega
  have HT2 : a_a (b_Q wr):=⟨fun j hj => (HB.out.cell (p:=⟨0,j,none⟩) h0n).trans (HT.out j hj)⟩
  obtain ⟨fn,tmps,assign,body,hy,hR⟩:=HY.out pre (Lib.ctz 32 m) wr HJs.out hlen
  have HR:=a_a.mk hR
  have HS:=a_a.mk hstep
  have HM0:=a_a.mk hm0
  clear hR hstep hm0
  have hf49 : Fence.wide.fn 37:=trivial
  have hn1 : 1 ≤ n:=by omega
  gi_wp2_with (first|(gi_at_call 37;refine (callsIn_wide.2 (e_S m HM0.out (by omega) _ HT2.out)).mono ?_;rintro e w' ⟨rfl,rfl⟩)|(refine HR.out.mono ?_;rintro e W3 ⟨rfl,hJ3,hk3⟩;have HJ3:=a_a.mk hJ3;have HK3:=a_a.mk hk3;have G3:=a_a.mk (hk3.2.trans HG2.out);clear hJ3 hk3;have c3 : W3.cell? ⟨g,0,none⟩ = some (.int .u32 (m : Int)):=(a_h G3.out 0).trans rfl;have f3:=a_f G3.out 0;have z3:=a_k G3.out))
  have hE2 : bits BinOp.and IntKind.u32 (m : Int) (((m : Int) - 1) % 4294967296) = ((m &&& (m - 1) : Nat) : Int):=by
   have hm0:=HM0.out
   rw [show ((m : Int) - 1) % 4294967296 = ((m - 1 : Nat) : Int) by omega]
   exact bits_and_u32_nat m (m - 1) (by omega) (by omega)
  rw [hE2]
  have B3 : (W3.setCell ⟨g,0,none⟩ (.int .u32 ((m &&& (m - 1) : Nat) : Int))).heap[g]? = some (.cells #[.int .u32 ((m &&& (m - 1) : Nat) : Int)] 32 (0,0)):=a_D G3.out 0 _ rfl
  refine ⟨⟨pre ++ [Lib.ctz 32 m],m &&& (m - 1),Nat.lt_of_le_of_lt Nat.and_le_left hm,⟨by rw [HL.out,HS.out];simp⟩,⟨HJG.out _ _ _ HJ3.out⟩,⟨(HB.out.trans HK3.out.1).setCell (p:=⟨g,0,none⟩) hgn _⟩,⟨B3⟩⟩,?_⟩
  rw [d_1 ((a_h B3 0).trans rfl),d_1 hmc]
  exact e_k m HM0.out
set_option maxRecDepth 100000 in
set_option maxHeartbeats 4000000 in
theorem d_u (n : Nat) (hn : 4 ≤ n) (g s : Nat) (hs : s < 4294967296) (w : World) (hb0 : w.heap[g]? = some (.cells #[.int .u32 (s : Int)] 32 (0,0))) (ht : b_Q w) (h0g : 0 < g) :
 CallsIn Fence.wide n Tryd.prog 35 #[.slice none 0 0,.func (.func 36) #[] #[.pointer (some ⟨g,0,none⟩)]] w fun e W' => ∃ v,e = .returned v ∧ W'.ownsRow w.heap.size 3 1 v (b_1 (s &&& 255)).length ((b_1 (s &&& 255)).map fun x : Nat => Value.int .i64 (x : Int)) ∧ Below g w W':=by
 have h1 : 1 ≤ n:=by omega
 have hgl:=a_k hb0
 obtain ⟨i0,hi,hz0,hz1,hz2⟩:=info_parts info3
 refine callsIn_of_wp_marks Tryd.func35 rfl trivial ?_ rfl
 simp only [Tryd.ntmps35,List.size_toArray,List.length_cons,List.length_nil,Nat.reduceAdd,Nat.reduceSub,Array.replicate_succ,Array.replicate_zero,List.push_toArray,List.append_toArray,List.nil_append,List.cons_append]
 have HT:=a_a.mk ht
 have HB0:=a_a.mk hb0
 clear ht hb0
 gi_wp2
 have bO:=Boxed.new w 47 (.slice none 0 0)
 have hB0 : Below g w (w.alloc (.cells #[.slice none 0 0] 47)):=(Below.refl _ w).alloc (by omega) _
 have hBw : Below w.heap.size w (w.alloc (.cells #[.slice none 0 0] 47)):=(Below.refl _ w).alloc (Nat.le_refl _) _
 refine c_7 (w0:=w.alloc (.cells #[.slice none 0 0] 47)) rfl h1 (gf:=36) (lb:=#[.pointer (some ⟨g,0,none⟩)]) rfl trivial (enters_of Tryd.func36 (by kernel_rfl) rfl)
  (d_H (n - 1) (by omega) g g s hs _ (by simp;omega) (Nat.le_refl _) ((hBw.block g hgl).trans HB0.out) (HT.out.below hBw) h0g) (by simp;omega) CpK.trans (fun W l o o' hl ho hc hw => ⟨belowK_b (w:=w.alloc (.cells #[.slice none 0 0] 47)) (by simp;omega) W l o o' hl ho hc hw,World.putObj_heap_other (by simp at hl;omega)⟩) (Below.refl _ _) (fun _ => rfl)
  (fun pre W => (∃ v,Boxed W w.heap.size 47 v ∧ W.ownsRow w.heap.size 3 1 v pre.length (pre.map fun x : Nat => Value.int .i64 (x : Int)) ∧ True) ∧ Below g w W)
  (OwnFrom.and (Own.from (holdsRow_own w.heap.size w.heap.size 47 3 1 (fun pre : List Nat => pre.length) (fun pre => pre.map fun x : Nat => Value.int .i64 (x : Int)) (fun _ _ => True)) _) (ownFrom_below (by omega) (by simp;omega)))
  (fun pre A u ⟨⟨v,hv,hr,_⟩,hb⟩ => ⟨⟨v,(Below.heap_setCell A ⟨g,0,none⟩ u w.heap.size (by show w.heap.size ≠ g;omega)).trans hv,e_B hr (fun k hk => Below.heap_setCell A ⟨g,0,none⟩ u k (by have:=c_x hr k hk;show k ≠ g;omega)),trivial⟩,hb.setCell (p:=⟨g,0,none⟩) (Nat.le_refl _) u⟩)
  ⟨⟨_,bO,World.ownsRow_nil _ _ _ _,trivial⟩,hB0⟩
  (fun x => { tmps:=#[.slice none 0 0,.func (.func 36) #[] #[.pointer (some ⟨g,0,none⟩)],.pointer (some ⟨w.heap.size,0,none⟩),undef,.slice none 0 0,.int .i64 (x : Int),.func (.func 36) #[] #[.pointer (some ⟨g,0,none⟩)],.int .i64 (x : Int),undef,undef,undef,undef,undef],defers:=[] }) ?assign ?body ?done
 case assign =>
  intro l x W K hK
  gi_wp2
  exact hK
 case body =>
  rintro l pre x W ⟨⟨v,hv,hrow,_⟩,hB⟩ hlt
  have hc:=hv.cell
  have hmx : 8 ≤ maxLen:=by decide
  gi_wp2_with (gi_at_builtin;refine wpListIn_append_own _ rfl _ _ 47 rfl w.heap.size 3 i0 (.int .i64 0) 1 8 Tryd.underlying47 hi hz0 hz1 hz2 rfl (by decide) _ _ _ rfl (hrow.alloc _) ⟨W.heap.size,0,none⟩ 1 1 [.int .i64 (x : Int)] rfl rfl (cell_one_new _ _ _) (by simp [Value.oneCell']) (by omega) (by omega) (by have:=hv.lt;simp;omega) ?_;intro v' w1 hown' hgrow _;obtain ⟨g',cap',rfl⟩:=ownsRow_succ hown';obtain ⟨hv1,hv2,hr2,hk2,hb2⟩:=hv.appended (by decide) hrow (Nat.le_of_lt hv.lt) (Nat.le_refl _) hown' hgrow;have hc1:=hv1.cell;have hf1:=hv1.frozen)
  exact ⟨hk2.from _,⟨hb2.mono (by omega),hb2.block _ (by omega)⟩,⟨_,hv2,by simpa using hr2,trivial⟩,hB.trans (hb2.mono (by omega))⟩
 case done =>
  rintro D ys W hD rfl ⟨⟨v,hv,hrow,_⟩,hB⟩ hK
  have hc:=hv.cell
  gi_wp2
  refine ⟨by simp,.inl ⟨_,_,rfl,run_takeDeferred hK,?_⟩⟩
  exact ⟨_,results_tmp rfl _ _ _,v,rfl,ownsRow_putObj hrow _ hK rfl,hB.trans (belowK_b (w:=w) (by omega) W D _ _ (by simp at hD;omega) hK rfl rfl)⟩
set_option maxHeartbeats 1000000 in
theorem d_9 (n : Nat) (hn : 5 ≤ n) (g s : Nat) (hs : s < 4294967296) (w : World) (hb0 : w.heap[g]? = some (.cells #[.int .u32 (s : Int)] 32 (0,0))) (ht : b_Q w) (h0g : 0 < g) :
 CallsIn Fence.wide n Tryd.prog 26 #[.func (.func 36) #[] #[.pointer (some ⟨g,0,none⟩)]] w fun e W' => ∃ v,e = .returned v ∧ W'.ownsRow w.heap.size 3 1 v (b_1 (s &&& 255)).length ((b_1 (s &&& 255)).map fun x : Nat => Value.int .i64 (x : Int)) ∧ Below g w W':=by
 have hf : Fence.wide.fn 35:=trivial
 have hn1 : 1 ≤ n:=by omega
 have HC:=a_a.mk (d_u (n - 1) (by omega) g s hs w hb0 ht h0g)
 clear hb0 ht
 refine callsIn_of_wp Tryd.func26 rfl trivial ?_ rfl
 simp only [Tryd.ntmps26,List.size_toArray,List.length_cons,List.length_nil,Nat.reduceAdd,Nat.reduceSub,Array.replicate_succ,Array.replicate_zero,List.push_toArray,List.append_toArray,List.nil_append,List.cons_append]
 gi_wp2_with (gi_at_call 35;refine HC.out.mono ?_;rintro e w' ⟨v,rfl,hrow,hb⟩;have HR:=a_a.mk hrow;have HB:=a_a.mk hb;clear hrow hb)
 go_ret
 exact ⟨v,rfl,HR.out,HB.out⟩
theorem f_l.calls (s : Nat) (w : World) :
 Calls Tryd.prog 27 #[.int .u32 (s : Int)] w fun e w' => e = .returned (.func (.func 36) #[] #[.pointer (some ⟨w.heap.size,0,none⟩)]) ∧ w' = w.alloc (.cells #[.int .u32 (s : Int)] 32):=by
 go_enter Tryd.func27,Tryd.ntmps27
 go_wp2
 go_ret
 exact ⟨rfl,rfl⟩
def b_g.f (a0 : Int) : Option (List Int):=if 0 ≤ a0 ∧ a0 < 4294967296 then some ((b_1 (a0.toNat &&& 255)).map fun x : Nat => (x : Int)) else none
set_option maxHeartbeats 1000000 in
theorem b_g.calls (a0 : Int) (r : List Int) (w : World) (ht : b_Q w) (h : b_g.f a0 = some r) :
 Calls Tryd.prog 15 #[.int .u32 a0] w fun e w' => ∃ v0_ : Value,e = .returned (v0_) ∧ Kd.R (Kd.int .i64) 3 w' w.heap.size (fun _ => True) v0_ r ∧ Below w.heap.size w w':=by
 unfold b_g.f at h
 split at h
 case isFalse => cases h
 case isTrue hs =>
 obtain rfl:=Option.some.inj h
 obtain ⟨s,rfl⟩ : ∃ s : Nat,a0 = (s : Int):=⟨a0.toNat,by omega⟩
 simp only [Int.toNat_natCast] at h ⊢
 have hs2 : s < 4294967296:=by omega
 have h0:=World.block_lt_of_cell? w _ (ht 0 (by decide))
 have hc:=d_9 6 (by omega) w.heap.size s hs2 (w.alloc (.cells #[.int .u32 (s : Int)] 32)) (e_l w _) (ht.below ((Below.refl _ w).alloc (Nat.le_refl _) _)) (by show 0 < w.heap.size;simp at h0;omega)
 have HC:=a_a.mk hc
 clear hc h ht
 refine (callsIn_wide (n:=7)).1 ?_
 have hf1 : Fence.wide.fn 26:=trivial
 have hf2 : Fence.wide.fn 27:=trivial
 refine callsIn_of_wp Tryd.func15 rfl trivial ?_ rfl
 simp only [Tryd.ntmps15,List.size_toArray,List.length_cons,List.length_nil,Nat.reduceAdd,Nat.reduceSub,Array.replicate_succ,Array.replicate_zero,List.push_toArray,List.append_toArray,List.nil_append,List.cons_append]
 gi_wp2_with (first
  | (gi_at_call 27;refine (callsIn_wide.2 (f_l.calls s w)).mono ?_;rintro e w' ⟨rfl,rfl⟩)
  | (gi_at_call 26;refine HC.out.mono ?_;rintro e w' ⟨v,rfl,hrow,hb⟩;have HR:=a_a.mk hrow;have HB:=a_a.mk hb;clear hrow hb))
 go_ret
 refine ⟨v,rfl,Kd.e_w (enc:=Value.int .i64) (h1:=fun _ => rfl) ?_ (fun _ _ => trivial),((Below.refl _ w).alloc (Nat.le_refl _) _).trans HB.out⟩
 have hr:=d_A HR.out (show w.heap.size ≤ (w.alloc (.cells #[.int .u32 (s : Int)] 32)).heap.size by simp)
 simpa [encs,Function.comp_def] using hr
end
end Go.Proofs.YtkhbffjfclepfaaDoor.Q
end
