/- Part 3 of 7 of what the row of PoolBytes stands on: contracts over the given program's functions, the plain law, the row; no condition beyond those that each theorem states. -/
import Derived.Test.YtkhbffjfclepfaaXPoolBytes1
import Derived.WalkSpells
section
namespace Go.Proofs.Ytkhbffjfclepfaa.Q
open Go.RowKit Go.Proofs.YtkhbffjfclepfaaW.PrintWords Go.Proofs.YtkhbffjfclepfaaW.PrintLast Go.Proofs.YtkhbffjfclepfaaW.PrintMore
set_option linter.unusedVariables false
set_option linter.unusedSimpArgs false
mutual
def a_C.j0 : Nat → List Int → Bool → Option (List Int × Int)
 | 0,_,_ => none
 | k + 1,x0,x20 => if x20 = true then (some (([] : List Int),7)) else (if 1 ≤ (x0.length : Int) then (a_C.l0 k x0 (x0.drop 1) ((x0.drop 1).length : Int) 0 ([] : List Int)) else (none))
def a_C.l0 : Nat → List Int → List Int → Int → Int → List Int → Option (List Int × Int)
 | 0,_,_,_,_,_ => none
 | k + 1,x0,x23,x24,x25,x372000 => if x25 < x24 then (if 0 ≤ x25 then (if x25 < (x23.length : Int) then (if x372000.length < 35184372088832 then (a_C.l0 k x0 x23 x24 (wrap64 (x25 + 1)) (x372000 ++ [(rd x23 x25) % 4294967296])) else (none)) else (none)) else (none)) else ((a_D.f k x372000).bind fun bt377 => (if bt377.2 = 0 then ((bytes_Equal.f bt377.1 x0).bind fun t381 => (if t381 = true then (some (x372000,0)) else (some (([] : List Int),180)))) else (some (([] : List Int),180))))
end
def a_C.f (k : Nat) (l0 : List Int) : Option (List Int × Int):=if (l0.length : Int) = 0 then (a_C.j0 k l0 true) else (if 0 < (l0.length : Int) then (a_C.j0 k l0 (decide ((l0.length : Int) ≤ (wrap64 (rd l0 0))))) else (none))
theorem a_C.b_x : ∀ k,(∀ y0 y1,LeO (a_C.j0 k y0 y1) (a_C.j0 (k + 1) y0 y1)) ∧ (∀ y0 y1 y2 y3 y4,LeO (a_C.l0 k y0 y1 y2 y3 y4) (a_C.l0 (k + 1) y0 y1 y2 y3 y4))
 | 0 => ⟨fun _ _ r h => by simp [a_C.j0] at h,fun _ _ _ _ _ r h => by simp [a_C.l0] at h⟩
 | k + 1 => by
  obtain ⟨ih0,ih1⟩:=a_C.b_x k
  refine ⟨?_,?_⟩
  ·intro y0 y1
   unfold a_C.j0
   repeat' first
   | (with_reducible exact ih0 _ _)
   | (with_reducible exact ih1 _ _ _ _ _)
   | (with_reducible exact a_D.mono _ _)
   | (with_reducible exact LeO.refl _)
   | (with_reducible exact LeO.none _)
   | (with_reducible refine LeO.ite ?_ ?_)
   | (with_reducible refine LeO.bind ?_ (fun _ => ?_))
   | exact ih0 _ _
   | exact ih1 _ _ _ _ _
   | exact a_D.mono _ _
   | exact LeO.none _
   | refine LeO.ite ?_ ?_
   | refine LeO.bind ?_ (fun _ => ?_)
  ·intro y0 y1 y2 y3 y4
   unfold a_C.l0
   repeat' first
   | (with_reducible exact ih0 _ _)
   | (with_reducible exact ih1 _ _ _ _ _)
   | (with_reducible exact a_D.mono _ _)
   | (with_reducible exact LeO.refl _)
   | (with_reducible exact LeO.none _)
   | (with_reducible refine LeO.ite ?_ ?_)
   | (with_reducible refine LeO.bind ?_ (fun _ => ?_))
   | exact ih0 _ _
   | exact ih1 _ _ _ _ _
   | exact a_D.mono _ _
   | exact LeO.none _
   | refine LeO.ite ?_ ?_
   | refine LeO.bind ?_ (fun _ => ?_)
theorem a_C.mono : ∀ a0 k,LeO (a_C.f k a0) (a_C.f (k + 1) a0):=by
 intro a0 k
 obtain ⟨ih0,ih1⟩:=a_C.b_x k
 unfold a_C.f
 repeat' first
  | (with_reducible exact ih0 _ _)
  | (with_reducible exact ih1 _ _ _ _ _)
  | (with_reducible exact a_D.mono _ _)
  | (with_reducible exact LeO.refl _)
  | (with_reducible exact LeO.none _)
  | (with_reducible refine LeO.ite ?_ ?_)
  | (with_reducible refine LeO.bind ?_ (fun _ => ?_))
  | exact ih0 _ _
  | exact ih1 _ _ _ _ _
  | exact a_D.mono _ _
  | exact LeO.none _
  | refine LeO.ite ?_ ?_
  | refine LeO.bind ?_ (fun _ => ?_)
set_option maxHeartbeats 8000000 in
set_option maxRecDepth 100000 in
theorem a_C.calls (k : Nat) (A0 : Option Addr) (c0 : Nat) (l0 : List Int) (r1 : List Int) (r2 : Int) (w : World) (hr0 : Kd.C (Kd.int .u8) w A0 l0.length l0) (hc0 : l0.length ≤ c0) (h : a_C.f k l0 = some (r1,r2)) :
 Calls Try.prog 27 #[.slice A0 l0.length c0] w fun e w' => ∃ v0_ : Value,e = .returned (.tuple #[.agg #[v0_],.int .i64 r2]) ∧ Kd.R (Kd.int .u32) 31 w' w.heap.size (fun _ => True) v0_ r1 ∧ Below w.heap.size w w':=by
 have hu26:=Try.underlying26
 have HR0:=a_a.mk hr0
 have HC0:=a_a.mk hc0
 clear hr0 hc0
 have HB:=a_a.mk (Below.refl w.heap.size w)
 have H : (if (l0.length : Int) = 0 then (a_C.j0 k l0 true) else (if 0 < (l0.length : Int) then (a_C.j0 k l0 (decide ((l0.length : Int) ≤ (wrap64 (rd l0 0))))) else (none))) = some (r1,r2):=h
 clear h
 have HC2:=a_a.mk H
 clear H
 go_enter Try.func27,Try.ntmps27
 go_upto_region 1 with (first|((with_reducible refine a_w (N:=2) rfl ?_);(try (refine a_H (by rfl) ?_;dsimp only));refine a_v ?hg (N:=2) ?hd (cs:=#[.slice none 0 0]) (t:=26) ?hr ?_;(case hd => rfl);(case hg => rfl);(case hr => first|(go_simp;done)|(go_simp;rfl));intro c_O hg w3 hbox hb;have b_K:=a_a.mk (hbox);have k_G:=a_a.mk ((by rw [hg];exact (a_j (lup_ HB.out)) : w.heap.size ≤ c_O));have c_x:=a_a.mk ((by rw [hg];exact (a_j (lup_ HB.out)) : w.heap.size ≤ c_O));replace HB:=a_a.mk (a_i (lup_ HB.out) hb);clear hb hbox hg))
 (try simp only [Act.put,List.setIfInBounds_toArray,List.set_cons_zero,List.set_cons_succ])
 go_cut [20] (fun v20 wc => ∃ (kq : Nat) (x20_1 : Bool),v20 = .bool x20_1 ∧ a_a (a_C.j0 kq l0 x20_1 = some (r1,r2)) ∧ a_a (kq ≤ k) ∧ a_a (wc.heap[c_O]? = some (.cells #[(.slice none 0 0)] 26 (0,0))) ∧ a_a (Below w.heap.size w wc))
 case first =>
  have H:=HC2.out
  clear HC2
  by_cases c4 : (l0.length : Int) = 0
  ·rw [if_pos c4] at H
   have c4b0 : ((l0.length : Int) == 0) = true:=beq_iff_eq.mpr c4
   have c4b1 : ((l0.length : Int) != 0) = false:=bne_eq_false_iff_eq.mpr c4
   clear c4
   (first|rw [c4b0]|(simp only [e_f,e_e];rw [c4b0])|skip)
   have H':=a_a.mk H
   clear H
   go_wp2
   go_meet
   case rel => exact ⟨_,(true),(by first|rfl|(simp;done)|(simp [*];done)),H',⟨by first|omega|exact Nat.le_refl _⟩,⟨by (with_reducible repeat (first|refine a_n ?_ _|refine a_q ?_|refine a_s ?_ _));exact b_K.out⟩,⟨by repeat (first|(with_reducible first|exact HB.out|apply a_d|apply a_b|apply a_e|refine a_c ?_ c_x.out)|exact HB.out)⟩⟩
  rw [if_neg c4] at H
  have c4b0 : ((l0.length : Int) == 0) = false:=beq_eq_false_iff_ne.mpr c4
  have c4b1 : ((l0.length : Int) != 0) = true:=bne_iff_ne.mpr c4
  have c4b2 : ¬ (l0 = []):=fun h_ => c4 (by rw [h_];rfl)
  (first|rw [c4b0]|(simp only [e_f,e_e];rw [c4b0])|skip)
  by_cases c5 : 0 < (l0.length : Int)
  rotate_left
  ·rw [if_neg c5] at H
   exact absurd H (by simp)
  rw [if_pos c5] at H
  have c5b0 : decide (0 < (l0.length : Int)) = true:=decide_eq_true c5
  have c5b1 : decide (0 < l0.length) = true:=decide_eq_true (by omega)
  clear c5
  have H':=a_a.mk H
  clear H
  have p370 : 0 ≤ (0 : Int):=(by omega)
  have q370 : 0 < (l0.length : Int):=of_decide_eq_true (by first|(with_reducible assumption)|assumption)
  obtain ⟨ad370,e370,d_h⟩:=Kd.b_z HR0.out 0 p370 q370
  cases e370
  have qi370 : (0 < l0.length) = True:=eq_true (by omega)
  (try rw [show ((0 : Int)).toNat = 0 from rfl] at d_h)
  (try rw [Addr.add_zero'] at d_h)
  replace d_h:=(HB.out.cell (World.block_lt_of_cell? w _ d_h)).trans d_h
  replace p370:=eq_true p370
  replace q370:=eq_true q370
  go_wp2
  go_meet
  case rel => exact ⟨_,(decide ((l0.length : Int) ≤ (wrap64 (rd l0 0)))),(by first|rfl|(simp;done)|(simp [*];done)),H',⟨by first|omega|exact Nat.le_refl _⟩,⟨by (with_reducible repeat (first|refine a_n ?_ _|refine a_q ?_|refine a_s ?_ _));exact b_K.out⟩,⟨by repeat (first|(with_reducible first|exact HB.out|apply a_d|apply a_b|apply a_e|refine a_c ?_ c_x.out)|exact HB.out)⟩⟩
 case rest =>
  clear HC2
  try clear c2
  try clear p2
  try clear p3
  try clear q3
  try clear hx3
  try clear qi3
  try clear c4
  try clear c4b0
  try clear c4b1
  try clear c4b2
  try clear c5
  try clear c5b0
  try clear c5b1
  try clear d_h
  try clear p370
  try clear q370
  obtain ⟨kq,x20_1,rfl,HA,HJ1,b_K,HB⟩:=hcut
  cases kq with
  | zero => exact absurd HA.out (by simp [a_C.j0])
  | succ kj1 =>
   have H:=HA.out
   clear HA
   simp only [a_C.j0] at H
   by_cases c6 : x20_1 = true
   ·subst c6
    have H1 : (some (([] : List Int),7)) = some (r1,r2):=by rw [if_pos rfl] at H;exact H
    clear H
    have H:=H1
    clear H1
    simp only [Option.some.injEq,Prod.mk.injEq] at H
    obtain ⟨rfl,rfl⟩:=H
    have c_U : wc.cell? ⟨c_O,0,none⟩ = some (.slice none 0 0):=(a_m b_K.out 0).trans rfl
    have c_V:=a_k b_K.out 0
    go_wp2
    refine bodyPost_ret (b_j rfl _ _ c_O 26 #[.slice none 0 0] (0,0) _ rfl (by (with_reducible repeat (first|refine a_n ?_ _|refine a_q ?_|refine a_s ?_ _));refine a_L (cs:=#[.slice none 0 0]) ?_ 0 _ rfl;(with_reducible repeat (first|refine a_n ?_ _|refine a_q ?_|refine a_s ?_ _));exact b_K.out) Try.underlying26 rfl (by kernel_rfl)) rfl ?_
    exact ⟨_,by first|rfl|(simp [a_z,a_y] <;> rfl)|(simp [*, a_z,a_y] <;> rfl),by first|exact Kd.c_z _ _ _ _ _|exact Kd.d_M _ _ _ _ _|exact Kd.d_I _ _ _ _ _|exact Kd.d_K _ _ _ _ _|exact Kd.d_L _ _ _ _ _,by repeat (first|(with_reducible first|exact HB.out|apply a_d|apply a_b|apply a_e|refine a_c ?_ c_x.out)|exact HB.out)⟩
   replace c6:=Bool.eq_false_iff.mpr c6
   subst c6
   have H1 : (if 1 ≤ (l0.length : Int) then (a_C.l0 kj1 l0 (l0.drop 1) ((l0.drop 1).length : Int) 0 ([] : List Int)) else (none)) = some (r1,r2):=by rw [if_neg (show ¬ (false = true) by decide)] at H;exact H
   clear H
   have H:=H1
   clear H1
   by_cases c8 : 1 ≤ (l0.length : Int)
   rotate_left
   ·rw [if_neg c8] at H
    exact absurd H (by simp)
   rw [if_pos c8] at H
   have c8b0:=eq_true c8
   have c8b1 : decide (1 ≤ (l0.length : Int)) = true:=decide_eq_true c8
   clear c8
   have H':=a_a.mk H
   clear H
   go_wp2_with (first|((with_reducible refine a_w (N:=4) rfl ?_);(try (refine a_H (by rfl) ?_;dsimp only));refine a_v ?hg (N:=4) ?hd (cs:=#[.slice none 0 0]) (t:=26) ?hr ?_;(case hd => rfl);(case hg => rfl);(case hr => first|(go_simp;done)|(go_simp;rfl));intro d_i hg w9 hbox hb;have b_5:=a_a.mk (hbox);have k_H:=a_a.mk ((by rw [hg];exact (a_j (by repeat (first|(with_reducible first|exact HB.out|apply a_d|apply a_b|apply a_e|refine a_c ?_ c_x.out)|exact HB.out))) : w.heap.size ≤ d_i));have d_j:=a_a.mk ((by rw [hg];exact (a_j (by repeat (first|(with_reducible first|exact HB.out|apply a_d|apply a_b|apply a_e|refine a_c ?_ c_x.out)|exact HB.out))) : w.heap.size ≤ d_i));have c_W:=a_a.mk ((by rw [hg];exact Nat.ne_of_lt (a_o (bup_ b_K.out)) : c_O ≠ d_i));have d_v:=a_a.mk ((by rw [hg];exact Nat.ne_of_gt (a_o (bup_ b_K.out)) : d_i ≠ c_O));replace b_K:=a_a.mk (a_f (bup_ b_K.out) hb);replace HB:=a_a.mk (a_i (by repeat (first|(with_reducible first|exact HB.out|apply a_d|apply a_b|apply a_e|refine a_c ?_ c_x.out)|exact HB.out)) hb);clear hb hbox hg;obtain ⟨i010,e_1,_,hsz10,_⟩:=info_parts info5;obtain ⟨A10,hcut10,hA10,hC10⟩:=d_s (P:=Try.prog) (Value.int .u8) 0 51 5 .i64 Try.underlying51 e_1 hsz10 A0 c0 l0 1 (by omega) (of_decide_eq_true (by first|(with_reducible assumption)|assumption)) HC0.out;have j_F:=a_a.mk (Kd.c_k (h1:=fun _ => rfl) (hA10 _ (Kd.b_0 HR0.out)));have k_I:=a_a.mk hC10;clear hA10 hC10 e_1 hsz10))
   go_loopg [25] kj1 (fun kq v25 w' => ∃ (x25_2 : Int) (x372000_2 : List Int) (u372000 : Value),v25 = .int .i64 x25_2 ∧ a_a (a_C.l0 kq l0 (l0.drop 1) ((l0.drop 1).length : Int) x25_2 x372000_2 = some (r1,r2)) ∧ a_a (kq ≤ kj1) ∧ a_a (Kd.R (Kd.int .u32) 31 w' w.heap.size (fun _ => True) u372000 x372000_2) ∧ a_a (w'.heap[c_O]? = some (.cells #[(.slice none 0 0)] 26 (0,0))) ∧ a_a (w'.heap[d_i]? = some (.cells #[u372000] 26 (0,0))) ∧ a_a (Below w.heap.size w w'))
   case atStart => exact ⟨(0),(([] : List Int)),(.slice none 0 0),(by first|rfl|(simp;done)|(simp [*];done)),H',⟨Nat.le_refl _⟩,⟨by first|exact Kd.c_z _ _ _ _ _|exact Kd.d_M _ _ _ _ _|exact Kd.d_I _ _ _ _ _|exact Kd.d_K _ _ _ _ _|exact Kd.d_L _ _ _ _ _⟩,⟨by (with_reducible repeat (first|refine a_n ?_ _|refine a_q ?_|refine a_s ?_ _));exact b_K.out⟩,⟨by (with_reducible repeat (first|refine a_n ?_ _|refine a_q ?_|refine a_s ?_ _));exact b_5.out⟩,⟨by repeat (first|(with_reducible first|exact HB.out|apply a_d|apply a_b|apply a_e|refine a_c ?_ c_x.out|refine a_c ?_ d_j.out)|exact HB.out)⟩⟩
   case round =>
    clear H'
    try clear c2
    try clear p2
    try clear p3
    try clear q3
    try clear hx3
    try clear qi3
    try clear c4
    try clear c4b0
    try clear c4b1
    try clear c4b2
    try clear c5
    try clear c5b0
    try clear c5b1
    try clear c6
    try clear p6
    try clear c8
    try clear c8b0
    try clear c8b1
    try clear c_U
    try clear c_V
    try clear d_h
    try clear p2
    try clear p3
    try clear p370
    try clear q3
    try clear q370
    obtain ⟨x25_2,x372000_2,u372000,rfl,HA,HK2,a_5,b_K,b_5,HB⟩:=hrel
    cases gk with
    | zero => exact absurd HA.out (by simp [a_C.l0])
    | succ k2 =>
     have H:=HA.out
     clear HA
     simp only [a_C.l0] at H
     by_cases c11 : x25_2 < ((l0.drop 1).length : Int)
     ·rw [if_pos c11] at H
      have c11b0 : decide (x25_2 < ((l0.drop 1).length : Int)) = true:=decide_eq_true c11
      have c11b9 : decide (x25_2 < ((l0.length - 1 : Nat) : Int)) = true:=by have h_:=c11b0;rw [List.length_drop] at h_;exact h_
      have c11b8 : x25_2 < ((l0.length - 1 : Nat) : Int):=of_decide_eq_true c11b9
      clear c11
      by_cases c12 : 0 ≤ x25_2
      rotate_left
      ·rw [if_neg c12] at H
       exact absurd H (by simp)
      rw [if_pos c12] at H
      have c12b0 : decide (0 ≤ x25_2) = true:=decide_eq_true c12
      clear c12
      by_cases c13 : x25_2 < ((l0.drop 1).length : Int)
      rotate_left
      ·rw [if_neg c13] at H
       exact absurd H (by simp)
      rw [if_pos c13] at H
      have c13b0 : decide (x25_2 < ((l0.drop 1).length : Int)) = true:=decide_eq_true c13
      have c13b9 : decide (x25_2 < ((l0.length - 1 : Nat) : Int)) = true:=by have h_:=c13b0;rw [List.length_drop] at h_;exact h_
      have c13b8 : x25_2 < ((l0.length - 1 : Nat) : Int):=of_decide_eq_true c13b9
      clear c13
      by_cases c14 : x372000_2.length < 35184372088832
      rotate_left
      ·rw [if_neg c14] at H
       exact absurd H (by simp)
      rw [if_pos c14] at H
      have LMc14:=a_a.mk c14
      clear c14
      obtain ⟨y374,hy374⟩ : ∃ y_ : List Int,y_ = (x372000_2 ++ [(rd l0.tail x25_2) % 4294967296]):=⟨_,rfl⟩
      replace H : (a_C.l0 k2 l0 (l0.drop 1) ((l0.drop 1).length : Int) (wrap64 (x25_2 + 1)) y374) = some (r1,r2):=by first|(rw [hy374, ← List.drop_one];with_reducible exact H)|(rw [hy374];with_reducible exact H)|(have H2_:=(Option.bind_some _ _).symm.trans H;rw [hy374];with_reducible exact H2_)|(have H2_:=(Option.bind_some _ _).symm.trans H;with_reducible exact H2_)|with_reducible exact H|(rw [hy374];exact H)|exact H
      have Ny374:=a_a.mk hy374
      clear hy374
      have H':=a_a.mk H
      clear H
      have p373 : 0 ≤ (x25_2 : Int):=of_decide_eq_true (by first|(with_reducible assumption)|assumption)
      have q373 : x25_2 < ((l0.drop 1).length : Int):=of_decide_eq_true (by first|(with_reducible assumption)|assumption)
      obtain ⟨ad373,e373,f_w⟩:=Kd.b_z j_F.out x25_2 p373 q373
      cases e373
      replace f_w:=(HB.out.cell (World.block_lt_of_cell? w _ f_w)).trans f_w
      replace p373:=eq_true p373
      replace q373:=eq_true q373
      have j_G:=d_v.out
      have j_H:=c_W.out
      have f_q : wr.cell? ⟨d_i,0,none⟩ = some (u372000):=(a_m b_5.out 0).trans rfl
      have f_r:=a_k b_5.out 0
      go_wp2_with (first|((with_reducible refine b_a (b:=.append) (xs:=#[.tmp 30,.tmp 33]) rfl ?_);(try (refine a_H (by rfl) ?_;dsimp only));at_builtin;refine Kd.d_p (Kd.int .u32) (w0:=w) w.heap.size rfl (.tmp 30) (.tmp 33) 24 31 (.int .u32 0) 4 rfl Try.underlying24 e_n rfl (by decide) (by omega) u372000 x372000_2 ((rd l0.tail x25_2) % 4294967296) [.int .u32 ((rd l0.tail x25_2) % 4294967296)] (fun _ => True) (fun _ => False) rfl rfl ?aP (fun _ hk => hk.elim) ?aF ?aO ?aB ?aS ?aL ?_;(case aP => exact rfl);(case aB => exact (by repeat (first|(with_reducible first|exact HB.out|apply a_d|apply a_b|apply a_e|refine a_c ?_ c_x.out|refine a_c ?_ d_j.out)|exact HB.out)));(case aF => exact (fun _ _ => trivial));(case aO => exact (rup_ a_5.out));(case aS => exact (a_j (by repeat (first|(with_reducible first|exact HB.out|apply a_d|apply a_b|apply a_e|refine a_c ?_ c_x.out|refine a_c ?_ d_j.out)|exact HB.out))));(case aL => have:=LMc14.out;omega);intro v375 w17 ho hb hg hat;rw [← Ny374.out] at ho;have i_Q:=a_a.mk (ho);replace b_K:=a_a.mk (b_q (g:=c_O) (o:=.cells #[.slice none 0 0] 26 (0,0)) (bup_ b_K.out) hg (Kd.R_ne a_5.out b_K.out (by decide)));replace b_5:=a_a.mk (b_q (g:=d_i) (o:=.cells #[u372000] 26 (0,0)) (bup_ b_5.out) hg (Kd.R_ne a_5.out b_5.out (by decide)));replace HB:=a_a.mk (hb);clear a_5 ho hb hg hat;obtain ⟨Ao18,co18,eo18⟩:=Kd.a_P i_Q.out;subst eo18;have f_o : w17.cell? ⟨d_i,0,none⟩ = some (u372000):=(a_m b_5.out 0).trans rfl;have f_p:=a_k b_5.out 0))
      go_roundg k2
      case measure => have:=HJ1.out;have:=HK2.out;omega
      case rel => exact ⟨(wrap64 (x25_2 + 1)),(y374),(.slice Ao18 y374.length co18),(by first|rfl|(simp;done)|(simp [*];done)),H',⟨by have:=HJ1.out;have:=HK2.out;omega⟩,⟨by (with_reducible repeat (first|apply Kd.a_J|apply Kd.a_I|apply Kd.a_M));exact Kd.a_U (Kd.b_i (p:=⟨d_i,0,none⟩) (Kd.a_N i_Q.out b_5.out (by decide)) (fun _ hk => hk.2) (.slice Ao18 y374.length co18)) (fun _ hk => trivial)⟩,⟨by (with_reducible repeat (first|refine a_n ?_ _|refine a_q ?_|refine a_s ?_ _));refine a_G ?_ c_W.out _;(with_reducible repeat (first|refine a_n ?_ _|refine a_q ?_|refine a_s ?_ _));exact b_K.out⟩,⟨by (with_reducible repeat (first|refine a_n ?_ _|refine a_q ?_|refine a_s ?_ _));refine a_L (cs:=#[u372000]) ?_ 0 _ rfl;(with_reducible repeat (first|refine a_n ?_ _|refine a_q ?_|refine a_s ?_ _));exact b_5.out⟩,⟨by repeat (first|(with_reducible first|exact HB.out|apply a_d|apply a_b|apply a_e|refine a_c ?_ c_x.out|refine a_c ?_ d_j.out)|exact HB.out)⟩⟩
     rw [if_neg c11] at H
     have c11b0 : decide (x25_2 < ((l0.drop 1).length : Int)) = false:=decide_eq_false c11
     have c11b9 : decide (x25_2 < ((l0.length - 1 : Nat) : Int)) = false:=by have h_:=c11b0;rw [List.length_drop] at h_;exact h_
     clear c11
     replace H:=Option.bind_eq_some_iff.mp H
     obtain ⟨⟨t377,t380⟩,A200,H⟩:=H
     replace H : (if t380 = 0 then ((bytes_Equal.f t377 l0).bind fun t381 => (if t381 = true then (some (x372000_2,0)) else (some (([] : List Int),180)))) else (some (([] : List Int),180))) = some (r1,r2):=H
     have A20:=a_a.mk A200
     clear A200
     by_cases c21 : t380 = 0
     rotate_left
     ·rw [if_neg c21] at H
      have c21b0 : (t380 == 0) = false:=beq_eq_false_iff_ne.mpr c21
      have c21b1 : (t380 != 0) = true:=bne_iff_ne.mpr c21
      simp only [Option.some.injEq,Prod.mk.injEq] at H
      obtain ⟨rfl,rfl⟩:=H
      have k_J:=d_v.out
      have k_K:=c_W.out
      have j_I : wr.cell? ⟨d_i,0,none⟩ = some (u372000):=(a_m b_5.out 0).trans rfl
      have j_J:=a_k b_5.out 0
      obtain ⟨Ao39,co39,eo39⟩:=Kd.a_P a_5.out
      subst eo39
      go_wp2_with (first|((with_reducible refine a_B (f:=24) rfl ?_);refine a_X (some 39) rfl rfl Try.func24 (by kernel_rfl) rfl #[.agg #[.slice Ao39 x372000_2.length co39]] rfl (by (try simp only [List.map_toArray,List.map_cons,List.map_nil]);first|done|rfl|(simp only [List.length_drop,List.length_take];rfl)) ?_;(with_reducible refine (a_D.calls k2 _ _ x372000_2 t377 t380 _ ?side1 ?side2 A20.out).mono ?_);(case side1 => repeat (first|exact (Kd.a_A a_5.out).2.2|(with_reducible refine Kd.a_Q ?_ _)|(with_reducible refine Kd.a_R ?_ _)|(with_reducible refine Kd.a_0 ?_)));(case side2 => exact (Kd.a_A a_5.out).2.1);rintro e w40 ⟨v378,rfl,ho0,hb⟩;refine ⟨_,rfl,?_⟩;have d_O:=a_a.mk (Kd.a_S ho0 (a_j (by repeat (first|(with_reducible first|exact HB.out|apply a_d|apply a_b|apply a_e|refine a_c ?_ c_x.out|refine a_c ?_ d_j.out)|exact HB.out))));replace a_5:=a_a.mk (Kd.a_F (rup_ a_5.out) hb);replace b_K:=a_a.mk (a_f (bup_ b_K.out) hb);replace b_5:=a_a.mk (a_f (bup_ b_5.out) hb);replace HB:=a_a.mk (a_i (by repeat (first|(with_reducible first|exact HB.out|apply a_d|apply a_b|apply a_e|refine a_c ?_ c_x.out|refine a_c ?_ d_j.out)|exact HB.out)) hb);(try clear hb);(try clear hb2);(try clear hk);(try clear hi);(try clear ho0);have f_x : w40.cell? ⟨c_O,0,none⟩ = some (.slice none 0 0):=(a_m b_K.out 0).trans rfl;have f_y:=a_k b_K.out 0))
      refine bodyPost_ret (b_j rfl _ _ c_O 26 #[.slice none 0 0] (0,0) _ rfl (by (with_reducible repeat (first|refine a_n ?_ _|refine a_q ?_|refine a_s ?_ _));refine a_L (cs:=#[.slice none 0 0]) ?_ 0 _ rfl;(with_reducible repeat (first|refine a_n ?_ _|refine a_q ?_|refine a_s ?_ _));exact b_K.out) Try.underlying26 rfl (by kernel_rfl)) rfl ?_
      exact ⟨_,by first|rfl|(simp [a_z,a_y] <;> rfl)|(simp [*, a_z,a_y] <;> rfl),by first|exact Kd.c_z _ _ _ _ _|exact Kd.d_M _ _ _ _ _|exact Kd.d_I _ _ _ _ _|exact Kd.d_K _ _ _ _ _|exact Kd.d_L _ _ _ _ _,by repeat (first|(with_reducible first|exact HB.out|apply a_d|apply a_b|apply a_e|refine a_c ?_ c_x.out|refine a_c ?_ d_j.out)|exact HB.out)⟩
     rw [if_pos c21] at H
     have c21b0 : (t380 == 0) = true:=beq_iff_eq.mpr c21
     have c21b1 : (t380 != 0) = false:=bne_eq_false_iff_eq.mpr c21
     clear c21
     replace H:=Option.bind_eq_some_iff.mp H
     obtain ⟨t381,A220,H⟩:=H
     replace H : (if t381 = true then (some (x372000_2,0)) else (some (([] : List Int),180))) = some (r1,r2):=H
     have A22:=a_a.mk A220
     clear A220
     by_cases c23 : t381 = true
     ·subst c23
      have H1 : (some (x372000_2,0)) = some (r1,r2):=by rw [if_pos rfl] at H;exact H
      clear H
      have H:=H1
      clear H1
      simp only [Option.some.injEq,Prod.mk.injEq] at H
      obtain ⟨rfl,rfl⟩:=H
      have j_K:=d_v.out
      have j_L:=c_W.out
      have i_m : wr.cell? ⟨d_i,0,none⟩ = some (u372000):=(a_m b_5.out 0).trans rfl
      have i_n:=a_k b_5.out 0
      obtain ⟨Ao26,co26,eo26⟩:=Kd.a_P a_5.out
      subst eo26
      go_wp2_with (first|((with_reducible refine a_B (f:=24) rfl ?_);refine a_X (some 39) rfl rfl Try.func24 (by kernel_rfl) rfl #[.agg #[.slice Ao26 x372000_2.length co26]] rfl (by (try simp only [List.map_toArray,List.map_cons,List.map_nil]);first|done|rfl|(simp only [List.length_drop,List.length_take];rfl)) ?_;(with_reducible refine (a_D.calls k2 _ _ x372000_2 t377 t380 _ ?side1 ?side2 A20.out).mono ?_);(case side1 => repeat (first|exact (Kd.a_A a_5.out).2.2|(with_reducible refine Kd.a_Q ?_ _)|(with_reducible refine Kd.a_R ?_ _)|(with_reducible refine Kd.a_0 ?_)));(case side2 => exact (Kd.a_A a_5.out).2.1);rintro e w27 ⟨v378,rfl,ho0,hb⟩;refine ⟨_,rfl,?_⟩;have d_O:=a_a.mk (Kd.a_S ho0 (a_j (by repeat (first|(with_reducible first|exact HB.out|apply a_d|apply a_b|apply a_e|refine a_c ?_ c_x.out|refine a_c ?_ d_j.out)|exact HB.out))));replace a_5:=a_a.mk (Kd.a_F (rup_ a_5.out) hb);replace b_K:=a_a.mk (a_f (bup_ b_K.out) hb);replace b_5:=a_a.mk (a_f (bup_ b_5.out) hb);replace HB:=a_a.mk (a_i (by repeat (first|(with_reducible first|exact HB.out|apply a_d|apply a_b|apply a_e|refine a_c ?_ c_x.out|refine a_c ?_ d_j.out)|exact HB.out)) hb);(try clear hb);(try clear hb2);(try clear hk);(try clear hi);(try clear ho0);obtain ⟨Ao28,co28,eo28⟩:=Kd.a_P d_O.out;subst eo28)|(go_at_call 25;(with_reducible refine (bytes_Equal.calls _ _ t377 _ _ l0 true _ ?side1 ?side2 ?side3 ?side4 A22.out).mono ?_);(case side1 => repeat (first|exact (Kd.a_A d_O.out).2.2|(with_reducible refine Kd.a_Q ?_ _)|(with_reducible refine Kd.a_R ?_ _)|(with_reducible refine Kd.a_0 ?_)));(case side2 => exact (Kd.a_A d_O.out).2.1);(case side3 => repeat (first|exact (Kd.a_O HR0.out HB.out)|(with_reducible refine Kd.a_Q ?_ _)|(with_reducible refine Kd.a_R ?_ _)|(with_reducible refine Kd.a_0 ?_)));(case side4 => exact HC0.out);rintro e w' ⟨rfl,⟨nd,rfl⟩⟩;(try (rw [c_A w27];generalize hq_ : World.drewN w27 _ = w27;replace d_O : a_a (Kd.R (Kd.int .u8) 5 w27 w.heap.size (fun _ => True) (.slice Ao28 t377.length co28) t377):=⟨by rw [← hq_];exact (rup_ d_O.out)⟩;replace a_5 : a_a (Kd.R (Kd.int .u32) 31 w27 w.heap.size (fun _ => True) (.slice Ao26 x372000_2.length co26) x372000_2):=⟨by rw [← hq_];exact (rup_ a_5.out)⟩;replace b_K : a_a (w27.heap[c_O]? = some (.cells #[.slice none 0 0] 26 (0,0))):=⟨by rw [← hq_];exact (bup_ b_K.out)⟩;replace b_5 : a_a (w27.heap[d_i]? = some (.cells #[.slice Ao26 x372000_2.length co26] 26 (0,0))):=⟨by rw [← hq_];exact (bup_ b_5.out)⟩;replace HB : a_a (Below w.heap.size w w27):=⟨by rw [← hq_];exact (by repeat (first|(with_reducible first|exact HB.out|apply a_d|apply a_b|apply a_e|refine a_c ?_ c_x.out|refine a_c ?_ d_j.out)|exact HB.out))⟩;clear hq_));have e_z : w27.cell? ⟨d_i,0,none⟩ = some (.slice Ao26 x372000_2.length co26):=(a_m b_5.out 0).trans rfl;have e_A:=a_k b_5.out 0;have j_M : w27.cell? ⟨c_O,0,none⟩ = some (.slice none 0 0):=(a_m b_K.out 0).trans rfl;have j_N:=a_k b_K.out 0))
      refine bodyPost_ret (b_j rfl _ _ c_O 26 #[.slice Ao26 x372000_2.length co26] (0,0) _ rfl (by (with_reducible repeat (first|refine a_n ?_ _|refine a_q ?_|refine a_s ?_ _));refine a_L (cs:=#[.slice none 0 0]) ?_ 0 _ rfl;(with_reducible repeat (first|refine a_n ?_ _|refine a_q ?_|refine a_s ?_ _));exact b_K.out) Try.underlying26 rfl (by kernel_rfl)) rfl ?_
      exact ⟨_,by first|rfl|(simp [a_z,a_y] <;> rfl)|(simp [*, a_z,a_y] <;> rfl),by (with_reducible repeat (first|apply Kd.a_J|apply Kd.a_I|apply Kd.a_M));exact Kd.a_U (Kd.b_i (p:=⟨c_O,0,none⟩) (Kd.a_N a_5.out b_K.out (by decide)) (fun _ hk => hk.2) (.slice Ao26 x372000_2.length co26)) (fun _ hk => trivial),by repeat (first|(with_reducible first|exact HB.out|apply a_d|apply a_b|apply a_e|refine a_c ?_ c_x.out|refine a_c ?_ d_j.out)|exact HB.out)⟩
     replace c23:=Bool.eq_false_iff.mpr c23
     subst c23
     have H1 : (some (([] : List Int),180)) = some (r1,r2):=by rw [if_neg (show ¬ (false = true) by decide)] at H;exact H
     clear H
     have H:=H1
     clear H1
     simp only [Option.some.injEq,Prod.mk.injEq] at H
     obtain ⟨rfl,rfl⟩:=H
     have j_O:=d_v.out
     have j_P:=c_W.out
     have j_Q : wr.cell? ⟨d_i,0,none⟩ = some (u372000):=(a_m b_5.out 0).trans rfl
     have j_R:=a_k b_5.out 0
     obtain ⟨Ao33,co33,eo33⟩:=Kd.a_P a_5.out
     subst eo33
     go_wp2_with (first|((with_reducible refine a_B (f:=24) rfl ?_);refine a_X (some 39) rfl rfl Try.func24 (by kernel_rfl) rfl #[.agg #[.slice Ao33 x372000_2.length co33]] rfl (by (try simp only [List.map_toArray,List.map_cons,List.map_nil]);first|done|rfl|(simp only [List.length_drop,List.length_take];rfl)) ?_;(with_reducible refine (a_D.calls k2 _ _ x372000_2 t377 t380 _ ?side1 ?side2 A20.out).mono ?_);(case side1 => repeat (first|exact (Kd.a_A a_5.out).2.2|(with_reducible refine Kd.a_Q ?_ _)|(with_reducible refine Kd.a_R ?_ _)|(with_reducible refine Kd.a_0 ?_)));(case side2 => exact (Kd.a_A a_5.out).2.1);rintro e w34 ⟨v378,rfl,ho0,hb⟩;refine ⟨_,rfl,?_⟩;have d_O:=a_a.mk (Kd.a_S ho0 (a_j (by repeat (first|(with_reducible first|exact HB.out|apply a_d|apply a_b|apply a_e|refine a_c ?_ c_x.out|refine a_c ?_ d_j.out)|exact HB.out))));replace a_5:=a_a.mk (Kd.a_F (rup_ a_5.out) hb);replace b_K:=a_a.mk (a_f (bup_ b_K.out) hb);replace b_5:=a_a.mk (a_f (bup_ b_5.out) hb);replace HB:=a_a.mk (a_i (by repeat (first|(with_reducible first|exact HB.out|apply a_d|apply a_b|apply a_e|refine a_c ?_ c_x.out|refine a_c ?_ d_j.out)|exact HB.out)) hb);(try clear hb);(try clear hb2);(try clear hk);(try clear hi);(try clear ho0);obtain ⟨Ao35,co35,eo35⟩:=Kd.a_P d_O.out;subst eo35)|(go_at_call 25;(with_reducible refine (bytes_Equal.calls _ _ t377 _ _ l0 false _ ?side1 ?side2 ?side3 ?side4 A22.out).mono ?_);(case side1 => repeat (first|exact (Kd.a_A d_O.out).2.2|(with_reducible refine Kd.a_Q ?_ _)|(with_reducible refine Kd.a_R ?_ _)|(with_reducible refine Kd.a_0 ?_)));(case side2 => exact (Kd.a_A d_O.out).2.1);(case side3 => repeat (first|exact (Kd.a_O HR0.out HB.out)|(with_reducible refine Kd.a_Q ?_ _)|(with_reducible refine Kd.a_R ?_ _)|(with_reducible refine Kd.a_0 ?_)));(case side4 => exact HC0.out);rintro e w' ⟨rfl,⟨nd,rfl⟩⟩;(try (rw [c_A w34];generalize hq_ : World.drewN w34 _ = w34;replace d_O : a_a (Kd.R (Kd.int .u8) 5 w34 w.heap.size (fun _ => True) (.slice Ao35 t377.length co35) t377):=⟨by rw [← hq_];exact (rup_ d_O.out)⟩;replace a_5 : a_a (Kd.R (Kd.int .u32) 31 w34 w.heap.size (fun _ => True) (.slice Ao33 x372000_2.length co33) x372000_2):=⟨by rw [← hq_];exact (rup_ a_5.out)⟩;replace b_K : a_a (w34.heap[c_O]? = some (.cells #[.slice none 0 0] 26 (0,0))):=⟨by rw [← hq_];exact (bup_ b_K.out)⟩;replace b_5 : a_a (w34.heap[d_i]? = some (.cells #[.slice Ao33 x372000_2.length co33] 26 (0,0))):=⟨by rw [← hq_];exact (bup_ b_5.out)⟩;replace HB : a_a (Below w.heap.size w w34):=⟨by rw [← hq_];exact (by repeat (first|(with_reducible first|exact HB.out|apply a_d|apply a_b|apply a_e|refine a_c ?_ c_x.out|refine a_c ?_ d_j.out)|exact HB.out))⟩;clear hq_));have e_B : w34.cell? ⟨c_O,0,none⟩ = some (.slice none 0 0):=(a_m b_K.out 0).trans rfl;have e_C:=a_k b_K.out 0))
     refine bodyPost_ret (b_j rfl _ _ c_O 26 #[.slice none 0 0] (0,0) _ rfl (by (with_reducible repeat (first|refine a_n ?_ _|refine a_q ?_|refine a_s ?_ _));refine a_L (cs:=#[.slice none 0 0]) ?_ 0 _ rfl;(with_reducible repeat (first|refine a_n ?_ _|refine a_q ?_|refine a_s ?_ _));exact b_K.out) Try.underlying26 rfl (by kernel_rfl)) rfl ?_
     exact ⟨_,by first|rfl|(simp [a_z,a_y] <;> rfl)|(simp [*, a_z,a_y] <;> rfl),by first|exact Kd.c_z _ _ _ _ _|exact Kd.d_M _ _ _ _ _|exact Kd.d_I _ _ _ _ _|exact Kd.d_K _ _ _ _ _|exact Kd.d_L _ _ _ _ _,by repeat (first|(with_reducible first|exact HB.out|apply a_d|apply a_b|apply a_e|refine a_c ?_ c_x.out|refine a_c ?_ d_j.out)|exact HB.out)⟩
end Go.Proofs.Ytkhbffjfclepfaa.Q
end
section
namespace Go.Proofs.Ytkhbffjfclepfaa.Q
open Go.RowKit Go.Proofs.YtkhbffjfclepfaaW.PrintWords Go.Proofs.YtkhbffjfclepfaaW.PrintLast Go.Proofs.YtkhbffjfclepfaaW.PrintMore
set_option linter.unusedVariables false
set_option linter.unusedSimpArgs false
mutual
def a_l.j0 : Nat → List Int → Bool → Option (List Int × Int)
 | 0,_,_ => none
 | k + 1,x0,x19 => if x19 = true then (some (([] : List Int),7)) else (if 1 ≤ (x0.length : Int) then (a_l.l0 k x0 (x0.drop 1) ((x0.drop 1).length : Int) 0 ([] : List Int)) else (none))
def a_l.l0 : Nat → List Int → List Int → Int → Int → List Int → Option (List Int × Int)
 | 0,_,_,_,_,_ => none
 | k + 1,x0,x22,x23,x24,x385000 => if x24 < x23 then (if 0 ≤ x24 then (if x24 < (x22.length : Int) then (if x385000.length < 35184372088832 then (a_l.l0 k x0 x22 x23 (wrap64 (x24 + 1)) (x385000 ++ [(rd x22 x24) % 4294967296])) else (none)) else (none)) else (none)) else (if 0 < (x0.length : Int) then (if (x0.length : Int) = (wrap64 (1 + (wrap64 (rd x0 0)))) then ((a_h.f k x385000).bind fun t391 => (if t391 = true then (some (x385000,0)) else (some (([] : List Int),180)))) else (some (([] : List Int),180))) else (none))
end
def a_l.f (k : Nat) (l0 : List Int) : Option (List Int × Int):=if (l0.length : Int) < 1 then (a_l.j0 k l0 true) else (if 0 < (l0.length : Int) then (a_l.j0 k l0 (decide ((l0.length : Int) < (wrap64 (1 + (wrap64 (rd l0 0))))))) else (none))
theorem a_l.b_x : ∀ k,(∀ y0 y1,LeO (a_l.j0 k y0 y1) (a_l.j0 (k + 1) y0 y1)) ∧ (∀ y0 y1 y2 y3 y4,LeO (a_l.l0 k y0 y1 y2 y3 y4) (a_l.l0 (k + 1) y0 y1 y2 y3 y4))
 | 0 => ⟨fun _ _ r h => by simp [a_l.j0] at h,fun _ _ _ _ _ r h => by simp [a_l.l0] at h⟩
 | k + 1 => by
  obtain ⟨ih0,ih1⟩:=a_l.b_x k
  refine ⟨?_,?_⟩
  ·intro y0 y1
   unfold a_l.j0
   repeat' first
   | (with_reducible exact ih0 _ _)
   | (with_reducible exact ih1 _ _ _ _ _)
   | (with_reducible exact a_h.mono _ _)
   | (with_reducible exact LeO.refl _)
   | (with_reducible exact LeO.none _)
   | (with_reducible refine LeO.ite ?_ ?_)
   | (with_reducible refine LeO.bind ?_ (fun _ => ?_))
   | exact ih0 _ _
   | exact ih1 _ _ _ _ _
   | exact a_h.mono _ _
   | exact LeO.none _
   | refine LeO.ite ?_ ?_
   | refine LeO.bind ?_ (fun _ => ?_)
  ·intro y0 y1 y2 y3 y4
   unfold a_l.l0
   repeat' first
   | (with_reducible exact ih0 _ _)
   | (with_reducible exact ih1 _ _ _ _ _)
   | (with_reducible exact a_h.mono _ _)
   | (with_reducible exact LeO.refl _)
   | (with_reducible exact LeO.none _)
   | (with_reducible refine LeO.ite ?_ ?_)
   | (with_reducible refine LeO.bind ?_ (fun _ => ?_))
   | exact ih0 _ _
   | exact ih1 _ _ _ _ _
   | exact a_h.mono _ _
   | exact LeO.none _
   | refine LeO.ite ?_ ?_
   | refine LeO.bind ?_ (fun _ => ?_)
theorem a_l.mono : ∀ a0 k,LeO (a_l.f k a0) (a_l.f (k + 1) a0):=by
 intro a0 k
 obtain ⟨ih0,ih1⟩:=a_l.b_x k
 unfold a_l.f
 repeat' first
  | (with_reducible exact ih0 _ _)
  | (with_reducible exact ih1 _ _ _ _ _)
  | (with_reducible exact a_h.mono _ _)
  | (with_reducible exact LeO.refl _)
  | (with_reducible exact LeO.none _)
  | (with_reducible refine LeO.ite ?_ ?_)
  | (with_reducible refine LeO.bind ?_ (fun _ => ?_))
  | exact ih0 _ _
  | exact ih1 _ _ _ _ _
  | exact a_h.mono _ _
  | exact LeO.none _
  | refine LeO.ite ?_ ?_
  | refine LeO.bind ?_ (fun _ => ?_)
set_option maxHeartbeats 8000000 in
set_option maxRecDepth 100000 in
theorem a_l.calls (k : Nat) (A0 : Option Addr) (c0 : Nat) (l0 : List Int) (r1 : List Int) (r2 : Int) (w : World) (hr0 : Kd.C (Kd.int .u8) w A0 l0.length l0) (hc0 : l0.length ≤ c0) (h : a_l.f k l0 = some (r1,r2)) :
 Calls Try.prog 28 #[.slice A0 l0.length c0] w fun e w' => ∃ v0_ : Value,e = .returned (.tuple #[.agg #[v0_],.int .i64 r2]) ∧ Kd.R (Kd.int .u32) 31 w' w.heap.size (fun _ => True) v0_ r1 ∧ Below w.heap.size w w':=by
 have hu26:=Try.underlying26
 have HR0:=a_a.mk hr0
 have HC0:=a_a.mk hc0
 clear hr0 hc0
 have HB:=a_a.mk (Below.refl w.heap.size w)
 have H : (if (l0.length : Int) < 1 then (a_l.j0 k l0 true) else (if 0 < (l0.length : Int) then (a_l.j0 k l0 (decide ((l0.length : Int) < (wrap64 (1 + (wrap64 (rd l0 0))))))) else (none))) = some (r1,r2):=h
 clear h
 have HC2:=a_a.mk H
 clear H
 go_enter Try.func28,Try.ntmps28
 go_upto_region 1 with (first|((with_reducible refine a_w (N:=2) rfl ?_);(try (refine a_H (by rfl) ?_;dsimp only));refine a_v ?hg (N:=2) ?hd (cs:=#[.slice none 0 0]) (t:=26) ?hr ?_;(case hd => rfl);(case hg => rfl);(case hr => first|(go_simp;done)|(go_simp;rfl));intro c_5 hg w3 hbox hb;have b_1:=a_a.mk (hbox);have k_L:=a_a.mk ((by rw [hg];exact (a_j (lup_ HB.out)) : w.heap.size ≤ c_5));have d_k:=a_a.mk ((by rw [hg];exact (a_j (lup_ HB.out)) : w.heap.size ≤ c_5));replace HB:=a_a.mk (a_i (lup_ HB.out) hb);clear hb hbox hg))
 (try simp only [Act.put,List.setIfInBounds_toArray,List.set_cons_zero,List.set_cons_succ])
 go_cut [19] (fun v19 wc => ∃ (kq : Nat) (x19_1 : Bool),v19 = .bool x19_1 ∧ a_a (a_l.j0 kq l0 x19_1 = some (r1,r2)) ∧ a_a (kq ≤ k) ∧ a_a (wc.heap[c_5]? = some (.cells #[(.slice none 0 0)] 26 (0,0))) ∧ a_a (Below w.heap.size w wc))
 case first =>
  have H:=HC2.out
  clear HC2
  by_cases c4 : (l0.length : Int) < 1
  ·rw [if_pos c4] at H
   have c4b0 : decide ((l0.length : Int) < 1) = true:=decide_eq_true c4
   have c4b1 : decide (l0.length < 1) = true:=decide_eq_true (by omega)
   clear c4
   (first|rw [c4b0]|(simp only [e_f,e_e];rw [c4b0])|skip)
   have H':=a_a.mk H
   clear H
   go_wp2
   go_meet
   case rel => exact ⟨_,(true),(by first|rfl|(simp;done)|(simp [*];done)),H',⟨by first|omega|exact Nat.le_refl _⟩,⟨by (with_reducible repeat (first|refine a_n ?_ _|refine a_q ?_|refine a_s ?_ _));exact b_1.out⟩,⟨by repeat (first|(with_reducible first|exact HB.out|apply a_d|apply a_b|apply a_e|refine a_c ?_ d_k.out)|exact HB.out)⟩⟩
  rw [if_neg c4] at H
  have c4b0 : decide ((l0.length : Int) < 1) = false:=decide_eq_false c4
  have c4b1 : decide (l0.length < 1) = false:=decide_eq_false (by omega)
  clear c4
  (first|rw [c4b0]|(simp only [e_f,e_e];rw [c4b0])|skip)
  by_cases c5 : 0 < (l0.length : Int)
  rotate_left
  ·rw [if_neg c5] at H
   exact absurd H (by simp)
  rw [if_pos c5] at H
  have c5b0 : decide (0 < (l0.length : Int)) = true:=decide_eq_true c5
  have c5b1 : decide (0 < l0.length) = true:=decide_eq_true (by omega)
  clear c5
  have H':=a_a.mk H
  clear H
  have p383 : 0 ≤ (0 : Int):=(by omega)
  have q383 : 0 < (l0.length : Int):=of_decide_eq_true (by first|(with_reducible assumption)|assumption)
  obtain ⟨ad383,e383,d_l⟩:=Kd.b_z HR0.out 0 p383 q383
  cases e383
  have qi383 : (0 < l0.length) = True:=eq_true (by omega)
  (try rw [show ((0 : Int)).toNat = 0 from rfl] at d_l)
  (try rw [Addr.add_zero'] at d_l)
  replace d_l:=(HB.out.cell (World.block_lt_of_cell? w _ d_l)).trans d_l
  replace p383:=eq_true p383
  replace q383:=eq_true q383
  go_wp2
  go_meet
  case rel => exact ⟨_,(decide ((l0.length : Int) < (wrap64 (1 + (wrap64 (rd l0 0)))))),(by first|rfl|(simp;done)|(simp [*];done)),H',⟨by first|omega|exact Nat.le_refl _⟩,⟨by (with_reducible repeat (first|refine a_n ?_ _|refine a_q ?_|refine a_s ?_ _));exact b_1.out⟩,⟨by repeat (first|(with_reducible first|exact HB.out|apply a_d|apply a_b|apply a_e|refine a_c ?_ d_k.out)|exact HB.out)⟩⟩
 case rest =>
  clear HC2
  try clear c2
  try clear p2
  try clear p3
  try clear q3
  try clear hx3
  try clear qi3
  try clear c4
  try clear c4b0
  try clear c4b1
  try clear c5
  try clear c5b0
  try clear c5b1
  try clear d_l
  try clear p383
  try clear q383
  obtain ⟨kq,x19_1,rfl,HA,HJ1,b_1,HB⟩:=hcut
  cases kq with
  | zero => exact absurd HA.out (by simp [a_l.j0])
  | succ kj1 =>
   have H:=HA.out
   clear HA
   simp only [a_l.j0] at H
   by_cases c6 : x19_1 = true
   ·subst c6
    have H1 : (some (([] : List Int),7)) = some (r1,r2):=by rw [if_pos rfl] at H;exact H
    clear H
    have H:=H1
    clear H1
    simp only [Option.some.injEq,Prod.mk.injEq] at H
    obtain ⟨rfl,rfl⟩:=H
    have c_U : wc.cell? ⟨c_5,0,none⟩ = some (.slice none 0 0):=(a_m b_1.out 0).trans rfl
    have c_V:=a_k b_1.out 0
    go_wp2
    refine bodyPost_ret (b_j rfl _ _ c_5 26 #[.slice none 0 0] (0,0) _ rfl (by (with_reducible repeat (first|refine a_n ?_ _|refine a_q ?_|refine a_s ?_ _));refine a_L (cs:=#[.slice none 0 0]) ?_ 0 _ rfl;(with_reducible repeat (first|refine a_n ?_ _|refine a_q ?_|refine a_s ?_ _));exact b_1.out) Try.underlying26 rfl (by kernel_rfl)) rfl ?_
    exact ⟨_,by first|rfl|(simp [a_z,a_y] <;> rfl)|(simp [*, a_z,a_y] <;> rfl),by first|exact Kd.c_z _ _ _ _ _|exact Kd.d_M _ _ _ _ _|exact Kd.d_I _ _ _ _ _|exact Kd.d_K _ _ _ _ _|exact Kd.d_L _ _ _ _ _,by repeat (first|(with_reducible first|exact HB.out|apply a_d|apply a_b|apply a_e|refine a_c ?_ d_k.out)|exact HB.out)⟩
   replace c6:=Bool.eq_false_iff.mpr c6
   subst c6
   have H1 : (if 1 ≤ (l0.length : Int) then (a_l.l0 kj1 l0 (l0.drop 1) ((l0.drop 1).length : Int) 0 ([] : List Int)) else (none)) = some (r1,r2):=by rw [if_neg (show ¬ (false = true) by decide)] at H;exact H
   clear H
   have H:=H1
   clear H1
   by_cases c8 : 1 ≤ (l0.length : Int)
   rotate_left
   ·rw [if_neg c8] at H
    exact absurd H (by simp)
   rw [if_pos c8] at H
   have c8b0:=eq_true c8
   have c8b1 : decide (1 ≤ (l0.length : Int)) = true:=decide_eq_true c8
   clear c8
   have H':=a_a.mk H
   clear H
   go_wp2_with (first|((with_reducible refine a_w (N:=4) rfl ?_);(try (refine a_H (by rfl) ?_;dsimp only));refine a_v ?hg (N:=4) ?hd (cs:=#[.slice none 0 0]) (t:=26) ?hr ?_;(case hd => rfl);(case hg => rfl);(case hr => first|(go_simp;done)|(go_simp;rfl));intro d_P hg w9 hbox hb;have c_y:=a_a.mk (hbox);have k_M:=a_a.mk ((by rw [hg];exact (a_j (by repeat (first|(with_reducible first|exact HB.out|apply a_d|apply a_b|apply a_e|refine a_c ?_ d_k.out)|exact HB.out))) : w.heap.size ≤ d_P));have e_D:=a_a.mk ((by rw [hg];exact (a_j (by repeat (first|(with_reducible first|exact HB.out|apply a_d|apply a_b|apply a_e|refine a_c ?_ d_k.out)|exact HB.out))) : w.heap.size ≤ d_P));have c_X:=a_a.mk ((by rw [hg];exact Nat.ne_of_lt (a_o (bup_ b_1.out)) : c_5 ≠ d_P));have d_w:=a_a.mk ((by rw [hg];exact Nat.ne_of_gt (a_o (bup_ b_1.out)) : d_P ≠ c_5));replace b_1:=a_a.mk (a_f (bup_ b_1.out) hb);replace HB:=a_a.mk (a_i (by repeat (first|(with_reducible first|exact HB.out|apply a_d|apply a_b|apply a_e|refine a_c ?_ d_k.out)|exact HB.out)) hb);clear hb hbox hg;obtain ⟨i010,e_1,_,hsz10,_⟩:=info_parts info5;obtain ⟨A10,hcut10,hA10,hC10⟩:=d_s (P:=Try.prog) (Value.int .u8) 0 51 5 .i64 Try.underlying51 e_1 hsz10 A0 c0 l0 1 (by omega) (of_decide_eq_true (by first|(with_reducible assumption)|assumption)) HC0.out;have j_S:=a_a.mk (Kd.c_k (h1:=fun _ => rfl) (hA10 _ (Kd.b_0 HR0.out)));have k_N:=a_a.mk hC10;clear hA10 hC10 e_1 hsz10))
   go_loopg [24] kj1 (fun kq v24 w' => ∃ (x24_2 : Int) (x385000_2 : List Int) (u385000 : Value),v24 = .int .i64 x24_2 ∧ a_a (a_l.l0 kq l0 (l0.drop 1) ((l0.drop 1).length : Int) x24_2 x385000_2 = some (r1,r2)) ∧ a_a (kq ≤ kj1) ∧ a_a (Kd.R (Kd.int .u32) 31 w' w.heap.size (fun _ => True) u385000 x385000_2) ∧ a_a (w'.heap[c_5]? = some (.cells #[(.slice none 0 0)] 26 (0,0))) ∧ a_a (w'.heap[d_P]? = some (.cells #[u385000] 26 (0,0))) ∧ a_a (Below w.heap.size w w'))
   case atStart => exact ⟨(0),(([] : List Int)),(.slice none 0 0),(by first|rfl|(simp;done)|(simp [*];done)),H',⟨Nat.le_refl _⟩,⟨by first|exact Kd.c_z _ _ _ _ _|exact Kd.d_M _ _ _ _ _|exact Kd.d_I _ _ _ _ _|exact Kd.d_K _ _ _ _ _|exact Kd.d_L _ _ _ _ _⟩,⟨by (with_reducible repeat (first|refine a_n ?_ _|refine a_q ?_|refine a_s ?_ _));exact b_1.out⟩,⟨by (with_reducible repeat (first|refine a_n ?_ _|refine a_q ?_|refine a_s ?_ _));exact c_y.out⟩,⟨by repeat (first|(with_reducible first|exact HB.out|apply a_d|apply a_b|apply a_e|refine a_c ?_ d_k.out|refine a_c ?_ e_D.out)|exact HB.out)⟩⟩
   case round =>
    clear H'
    try clear c2
    try clear p2
    try clear p3
    try clear q3
    try clear hx3
    try clear qi3
    try clear c4
    try clear c4b0
    try clear c4b1
    try clear c5
    try clear c5b0
    try clear c5b1
    try clear c6
    try clear p6
    try clear c8
    try clear c8b0
    try clear c8b1
    try clear c_U
    try clear c_V
    try clear d_l
    try clear p2
    try clear p3
    try clear p383
    try clear q3
    try clear q383
    obtain ⟨x24_2,x385000_2,u385000,rfl,HA,HK2,b_t,b_1,c_y,HB⟩:=hrel
    cases gk with
    | zero => exact absurd HA.out (by simp [a_l.l0])
    | succ k2 =>
     have H:=HA.out
     clear HA
     simp only [a_l.l0] at H
     by_cases c11 : x24_2 < ((l0.drop 1).length : Int)
     ·rw [if_pos c11] at H
      have c11b0 : decide (x24_2 < ((l0.drop 1).length : Int)) = true:=decide_eq_true c11
      have c11b9 : decide (x24_2 < ((l0.length - 1 : Nat) : Int)) = true:=by have h_:=c11b0;rw [List.length_drop] at h_;exact h_
      have c11b8 : x24_2 < ((l0.length - 1 : Nat) : Int):=of_decide_eq_true c11b9
      clear c11
      by_cases c12 : 0 ≤ x24_2
      rotate_left
      ·rw [if_neg c12] at H
       exact absurd H (by simp)
      rw [if_pos c12] at H
      have c12b0 : decide (0 ≤ x24_2) = true:=decide_eq_true c12
      clear c12
      by_cases c13 : x24_2 < ((l0.drop 1).length : Int)
      rotate_left
      ·rw [if_neg c13] at H
       exact absurd H (by simp)
      rw [if_pos c13] at H
      have c13b0 : decide (x24_2 < ((l0.drop 1).length : Int)) = true:=decide_eq_true c13
      have c13b9 : decide (x24_2 < ((l0.length - 1 : Nat) : Int)) = true:=by have h_:=c13b0;rw [List.length_drop] at h_;exact h_
      have c13b8 : x24_2 < ((l0.length - 1 : Nat) : Int):=of_decide_eq_true c13b9
      clear c13
      by_cases c14 : x385000_2.length < 35184372088832
      rotate_left
      ·rw [if_neg c14] at H
       exact absurd H (by simp)
      rw [if_pos c14] at H
      have LMc14:=a_a.mk c14
      clear c14
      obtain ⟨y387,hy387⟩ : ∃ y_ : List Int,y_ = (x385000_2 ++ [(rd l0.tail x24_2) % 4294967296]):=⟨_,rfl⟩
      replace H : (a_l.l0 k2 l0 (l0.drop 1) ((l0.drop 1).length : Int) (wrap64 (x24_2 + 1)) y387) = some (r1,r2):=by first|(rw [hy387, ← List.drop_one];with_reducible exact H)|(rw [hy387];with_reducible exact H)|(have H2_:=(Option.bind_some _ _).symm.trans H;rw [hy387];with_reducible exact H2_)|(have H2_:=(Option.bind_some _ _).symm.trans H;with_reducible exact H2_)|with_reducible exact H|(rw [hy387];exact H)|exact H
      have Ny387:=a_a.mk hy387
      clear hy387
      have H':=a_a.mk H
      clear H
      have p386 : 0 ≤ (x24_2 : Int):=of_decide_eq_true (by first|(with_reducible assumption)|assumption)
      have q386 : x24_2 < ((l0.drop 1).length : Int):=of_decide_eq_true (by first|(with_reducible assumption)|assumption)
      obtain ⟨ad386,e386,f_z⟩:=Kd.b_z j_S.out x24_2 p386 q386
      cases e386
      replace f_z:=(HB.out.cell (World.block_lt_of_cell? w _ f_z)).trans f_z
      replace p386:=eq_true p386
      replace q386:=eq_true q386
      have j_G:=d_w.out
      have j_H:=c_X.out
      have f_q : wr.cell? ⟨d_P,0,none⟩ = some (u385000):=(a_m c_y.out 0).trans rfl
      have f_r:=a_k c_y.out 0
      go_wp2_with (first|((with_reducible refine b_a (b:=.append) (xs:=#[.tmp 29,.tmp 32]) rfl ?_);(try (refine a_H (by rfl) ?_;dsimp only));at_builtin;refine Kd.d_p (Kd.int .u32) (w0:=w) w.heap.size rfl (.tmp 29) (.tmp 32) 24 31 (.int .u32 0) 4 rfl Try.underlying24 e_n rfl (by decide) (by omega) u385000 x385000_2 ((rd l0.tail x24_2) % 4294967296) [.int .u32 ((rd l0.tail x24_2) % 4294967296)] (fun _ => True) (fun _ => False) rfl rfl ?aP (fun _ hk => hk.elim) ?aF ?aO ?aB ?aS ?aL ?_;(case aP => exact rfl);(case aB => exact (by repeat (first|(with_reducible first|exact HB.out|apply a_d|apply a_b|apply a_e|refine a_c ?_ d_k.out|refine a_c ?_ e_D.out)|exact HB.out)));(case aF => exact (fun _ _ => trivial));(case aO => exact (rup_ b_t.out));(case aS => exact (a_j (by repeat (first|(with_reducible first|exact HB.out|apply a_d|apply a_b|apply a_e|refine a_c ?_ d_k.out|refine a_c ?_ e_D.out)|exact HB.out))));(case aL => have:=LMc14.out;omega);intro v388 w17 ho hb hg hat;rw [← Ny387.out] at ho;have i_R:=a_a.mk (ho);replace b_1:=a_a.mk (b_q (g:=c_5) (o:=.cells #[.slice none 0 0] 26 (0,0)) (bup_ b_1.out) hg (Kd.R_ne b_t.out b_1.out (by decide)));replace c_y:=a_a.mk (b_q (g:=d_P) (o:=.cells #[u385000] 26 (0,0)) (bup_ c_y.out) hg (Kd.R_ne b_t.out c_y.out (by decide)));replace HB:=a_a.mk (hb);clear b_t ho hb hg hat;obtain ⟨Ao18,co18,eo18⟩:=Kd.a_P i_R.out;subst eo18;have f_o : w17.cell? ⟨d_P,0,none⟩ = some (u385000):=(a_m c_y.out 0).trans rfl;have f_p:=a_k c_y.out 0))
      go_roundg k2
      case measure => have:=HJ1.out;have:=HK2.out;omega
      case rel => exact ⟨(wrap64 (x24_2 + 1)),(y387),(.slice Ao18 y387.length co18),(by first|rfl|(simp;done)|(simp [*];done)),H',⟨by have:=HJ1.out;have:=HK2.out;omega⟩,⟨by (with_reducible repeat (first|apply Kd.a_J|apply Kd.a_I|apply Kd.a_M));exact Kd.a_U (Kd.b_i (p:=⟨d_P,0,none⟩) (Kd.a_N i_R.out c_y.out (by decide)) (fun _ hk => hk.2) (.slice Ao18 y387.length co18)) (fun _ hk => trivial)⟩,⟨by (with_reducible repeat (first|refine a_n ?_ _|refine a_q ?_|refine a_s ?_ _));refine a_G ?_ c_X.out _;(with_reducible repeat (first|refine a_n ?_ _|refine a_q ?_|refine a_s ?_ _));exact b_1.out⟩,⟨by (with_reducible repeat (first|refine a_n ?_ _|refine a_q ?_|refine a_s ?_ _));refine a_L (cs:=#[u385000]) ?_ 0 _ rfl;(with_reducible repeat (first|refine a_n ?_ _|refine a_q ?_|refine a_s ?_ _));exact c_y.out⟩,⟨by repeat (first|(with_reducible first|exact HB.out|apply a_d|apply a_b|apply a_e|refine a_c ?_ d_k.out|refine a_c ?_ e_D.out)|exact HB.out)⟩⟩
     rw [if_neg c11] at H
     have c11b0 : decide (x24_2 < ((l0.drop 1).length : Int)) = false:=decide_eq_false c11
     have c11b9 : decide (x24_2 < ((l0.length - 1 : Nat) : Int)) = false:=by have h_:=c11b0;rw [List.length_drop] at h_;exact h_
     clear c11
     by_cases c20 : 0 < (l0.length : Int)
     rotate_left
     ·rw [if_neg c20] at H
      exact absurd H (by simp)
     rw [if_pos c20] at H
     have c20b0 : decide (0 < (l0.length : Int)) = true:=decide_eq_true c20
     have c20b1 : decide (0 < l0.length) = true:=decide_eq_true (by omega)
     clear c20
     by_cases c21 : (l0.length : Int) = (wrap64 (1 + (wrap64 (rd l0 0))))
     rotate_left
     ·rw [if_neg c21] at H
      have c21b0 : ((l0.length : Int) == (wrap64 (1 + (wrap64 (rd l0 0))))) = false:=beq_eq_false_iff_ne.mpr c21
      have c21b1 : ((l0.length : Int) != (wrap64 (1 + (wrap64 (rd l0 0))))) = true:=bne_iff_ne.mpr c21
      simp only [Option.some.injEq,Prod.mk.injEq] at H
      obtain ⟨rfl,rfl⟩:=H
      have p390 : 0 ≤ (0 : Int):=(by omega)
      have q390 : 0 < (l0.length : Int):=of_decide_eq_true (by first|(with_reducible assumption)|assumption)
      obtain ⟨ad390,e390,b_P⟩:=Kd.b_z HR0.out 0 p390 q390
      cases e390
      have qi390 : (0 < l0.length) = True:=eq_true (by omega)
      (try rw [show ((0 : Int)).toNat = 0 from rfl] at b_P)
      (try rw [Addr.add_zero'] at b_P)
      replace b_P:=(HB.out.cell (World.block_lt_of_cell? w _ b_P)).trans b_P
      replace p390:=eq_true p390
      replace q390:=eq_true q390
      have k_O:=c_X.out
      have k_P:=d_w.out
      have e_B : wr.cell? ⟨c_5,0,none⟩ = some (.slice none 0 0):=(a_m b_1.out 0).trans rfl
      have e_C:=a_k b_1.out 0
      go_wp2
      refine bodyPost_ret (b_j rfl _ _ c_5 26 #[.slice none 0 0] (0,0) _ rfl (by (with_reducible repeat (first|refine a_n ?_ _|refine a_q ?_|refine a_s ?_ _));refine a_L (cs:=#[.slice none 0 0]) ?_ 0 _ rfl;(with_reducible repeat (first|refine a_n ?_ _|refine a_q ?_|refine a_s ?_ _));exact b_1.out) Try.underlying26 rfl (by kernel_rfl)) rfl ?_
      exact ⟨_,by first|rfl|(simp [a_z,a_y] <;> rfl)|(simp [*, a_z,a_y] <;> rfl),by first|exact Kd.c_z _ _ _ _ _|exact Kd.d_M _ _ _ _ _|exact Kd.d_I _ _ _ _ _|exact Kd.d_K _ _ _ _ _|exact Kd.d_L _ _ _ _ _,by repeat (first|(with_reducible first|exact HB.out|apply a_d|apply a_b|apply a_e|refine a_c ?_ d_k.out|refine a_c ?_ e_D.out)|exact HB.out)⟩
     rw [if_pos c21] at H
     have c21b0 : ((l0.length : Int) == (wrap64 (1 + (wrap64 (rd l0 0))))) = true:=beq_iff_eq.mpr c21
     have c21b1 : ((l0.length : Int) != (wrap64 (1 + (wrap64 (rd l0 0))))) = false:=bne_eq_false_iff_eq.mpr c21
     clear c21
     replace H:=Option.bind_eq_some_iff.mp H
     obtain ⟨t391,A220,H⟩:=H
     replace H : (if t391 = true then (some (x385000_2,0)) else (some (([] : List Int),180))) = some (r1,r2):=H
     have A22:=a_a.mk A220
     clear A220
     by_cases c23 : t391 = true
     ·subst c23
      have H1 : (some (x385000_2,0)) = some (r1,r2):=by rw [if_pos rfl] at H;exact H
      clear H
      have H:=H1
      clear H1
      simp only [Option.some.injEq,Prod.mk.injEq] at H
      obtain ⟨rfl,rfl⟩:=H
      have p390 : 0 ≤ (0 : Int):=(by omega)
      have q390 : 0 < (l0.length : Int):=of_decide_eq_true (by first|(with_reducible assumption)|assumption)
      obtain ⟨ad390,e390,b_P⟩:=Kd.b_z HR0.out 0 p390 q390
      cases e390
      have qi390 : (0 < l0.length) = True:=eq_true (by omega)
      (try rw [show ((0 : Int)).toNat = 0 from rfl] at b_P)
      (try rw [Addr.add_zero'] at b_P)
      replace b_P:=(HB.out.cell (World.block_lt_of_cell? w _ b_P)).trans b_P
      replace p390:=eq_true p390
      replace q390:=eq_true q390
      have j_K:=d_w.out
      have j_L:=c_X.out
      have i_m : wr.cell? ⟨d_P,0,none⟩ = some (u385000):=(a_m c_y.out 0).trans rfl
      have i_n:=a_k c_y.out 0
      obtain ⟨Ao26,co26,eo26⟩:=Kd.a_P b_t.out
      subst eo26
      go_wp2_with (first|(go_at_call 16;(with_reducible refine (a_h.calls k2 _ _ x385000_2 true _ ?side1 ?side2 A22.out).mono ?_);(case side1 => repeat (first|exact (Kd.a_A b_t.out).2.2|(with_reducible refine Kd.a_Q ?_ _)|(with_reducible refine Kd.a_R ?_ _)|(with_reducible refine Kd.a_0 ?_)));(case side2 => exact (Kd.a_A b_t.out).2.1);rintro e w27 ⟨rfl,hb⟩;replace b_t:=a_a.mk (Kd.a_F (rup_ b_t.out) hb);replace b_1:=a_a.mk (a_f (bup_ b_1.out) hb);replace c_y:=a_a.mk (a_f (bup_ c_y.out) hb);replace HB:=a_a.mk (a_i (by repeat (first|(with_reducible first|exact HB.out|apply a_d|apply a_b|apply a_e|refine a_c ?_ d_k.out|refine a_c ?_ e_D.out)|exact HB.out)) hb);(try clear hb);(try clear hb2);(try clear hk);(try clear hi);have j_T : w27.cell? ⟨d_P,0,none⟩ = some (.slice Ao26 x385000_2.length co26):=(a_m c_y.out 0).trans rfl;have j_U:=a_k c_y.out 0;have e_z : w27.cell? ⟨c_5,0,none⟩ = some (.slice none 0 0):=(a_m b_1.out 0).trans rfl;have e_A:=a_k b_1.out 0))
      refine bodyPost_ret (b_j rfl _ _ c_5 26 #[.slice Ao26 x385000_2.length co26] (0,0) _ rfl (by (with_reducible repeat (first|refine a_n ?_ _|refine a_q ?_|refine a_s ?_ _));refine a_L (cs:=#[.slice none 0 0]) ?_ 0 _ rfl;(with_reducible repeat (first|refine a_n ?_ _|refine a_q ?_|refine a_s ?_ _));exact b_1.out) Try.underlying26 rfl (by kernel_rfl)) rfl ?_
      exact ⟨_,by first|rfl|(simp [a_z,a_y] <;> rfl)|(simp [*, a_z,a_y] <;> rfl),by (with_reducible repeat (first|apply Kd.a_J|apply Kd.a_I|apply Kd.a_M));exact Kd.a_U (Kd.b_i (p:=⟨c_5,0,none⟩) (Kd.a_N b_t.out b_1.out (by decide)) (fun _ hk => hk.2) (.slice Ao26 x385000_2.length co26)) (fun _ hk => trivial),by repeat (first|(with_reducible first|exact HB.out|apply a_d|apply a_b|apply a_e|refine a_c ?_ d_k.out|refine a_c ?_ e_D.out)|exact HB.out)⟩
     replace c23:=Bool.eq_false_iff.mpr c23
     subst c23
     have H1 : (some (([] : List Int),180)) = some (r1,r2):=by rw [if_neg (show ¬ (false = true) by decide)] at H;exact H
     clear H
     have H:=H1
     clear H1
     simp only [Option.some.injEq,Prod.mk.injEq] at H
     obtain ⟨rfl,rfl⟩:=H
     have p390 : 0 ≤ (0 : Int):=(by omega)
     have q390 : 0 < (l0.length : Int):=of_decide_eq_true (by first|(with_reducible assumption)|assumption)
     obtain ⟨ad390,e390,b_P⟩:=Kd.b_z HR0.out 0 p390 q390
     cases e390
     have qi390 : (0 < l0.length) = True:=eq_true (by omega)
     (try rw [show ((0 : Int)).toNat = 0 from rfl] at b_P)
     (try rw [Addr.add_zero'] at b_P)
     replace b_P:=(HB.out.cell (World.block_lt_of_cell? w _ b_P)).trans b_P
     replace p390:=eq_true p390
     replace q390:=eq_true q390
     have k_Q:=d_w.out
     have k_R:=c_X.out
     have f_A : wr.cell? ⟨d_P,0,none⟩ = some (u385000):=(a_m c_y.out 0).trans rfl
     have f_B:=a_k c_y.out 0
     obtain ⟨Ao32,co32,eo32⟩:=Kd.a_P b_t.out
     subst eo32
     go_wp2_with (first|(go_at_call 16;(with_reducible refine (a_h.calls k2 _ _ x385000_2 false _ ?side1 ?side2 A22.out).mono ?_);(case side1 => repeat (first|exact (Kd.a_A b_t.out).2.2|(with_reducible refine Kd.a_Q ?_ _)|(with_reducible refine Kd.a_R ?_ _)|(with_reducible refine Kd.a_0 ?_)));(case side2 => exact (Kd.a_A b_t.out).2.1);rintro e w33 ⟨rfl,hb⟩;replace b_t:=a_a.mk (Kd.a_F (rup_ b_t.out) hb);replace b_1:=a_a.mk (a_f (bup_ b_1.out) hb);replace c_y:=a_a.mk (a_f (bup_ c_y.out) hb);replace HB:=a_a.mk (a_i (by repeat (first|(with_reducible first|exact HB.out|apply a_d|apply a_b|apply a_e|refine a_c ?_ d_k.out|refine a_c ?_ e_D.out)|exact HB.out)) hb);(try clear hb);(try clear hb2);(try clear hk);(try clear hi);have i_o : w33.cell? ⟨c_5,0,none⟩ = some (.slice none 0 0):=(a_m b_1.out 0).trans rfl;have i_p:=a_k b_1.out 0))
     refine bodyPost_ret (b_j rfl _ _ c_5 26 #[.slice none 0 0] (0,0) _ rfl (by (with_reducible repeat (first|refine a_n ?_ _|refine a_q ?_|refine a_s ?_ _));refine a_L (cs:=#[.slice none 0 0]) ?_ 0 _ rfl;(with_reducible repeat (first|refine a_n ?_ _|refine a_q ?_|refine a_s ?_ _));exact b_1.out) Try.underlying26 rfl (by kernel_rfl)) rfl ?_
     exact ⟨_,by first|rfl|(simp [a_z,a_y] <;> rfl)|(simp [*, a_z,a_y] <;> rfl),by first|exact Kd.c_z _ _ _ _ _|exact Kd.d_M _ _ _ _ _|exact Kd.d_I _ _ _ _ _|exact Kd.d_K _ _ _ _ _|exact Kd.d_L _ _ _ _ _,by repeat (first|(with_reducible first|exact HB.out|apply a_d|apply a_b|apply a_e|refine a_c ?_ d_k.out|refine a_c ?_ e_D.out)|exact HB.out)⟩
end Go.Proofs.Ytkhbffjfclepfaa.Q
end
section
namespace Go.Proofs.Ytkhbffjfclepfaa.Q
open Go.RowKit Go.Proofs.YtkhbffjfclepfaaW.PrintWords Go.Proofs.YtkhbffjfclepfaaW.PrintLast Go.Proofs.YtkhbffjfclepfaaW.PrintMore
set_option linter.unusedVariables false
set_option linter.unusedSimpArgs false
def b_O.f (a0 : Int) : Option (Int × Int):=if a0 < 0 then (some (0,2)) else (if a0 > 8 then (some (0,2)) else (if 0 ≤ a0 then (some (((shl .u32 1 a0) - 1) % 4294967296,0)) else (none)))
set_option maxHeartbeats 8000000 in
set_option maxRecDepth 100000 in
theorem b_O.calls (a0 : Int) (r1 : Int) (r2 : Int) (w : World) (h : b_O.f a0 = some (r1,r2)) :
 Calls Try.prog 32 #[.int .i64 a0] w fun e w' => e = .returned (.tuple #[.int .u32 r1,.int .i64 r2]) ∧ a_Y w w':=by
 have H : (if a0 < 0 then (some (0,2)) else (if a0 > 8 then (some (0,2)) else (if 0 ≤ a0 then (some (((shl .u32 1 a0) - 1) % 4294967296,0)) else (none)))) = some (r1,r2):=h
 clear h
 by_cases c2 : a0 < 0
 ·rw [if_pos c2] at H
  have c2b0 : decide (a0 < 0) = true:=decide_eq_true c2
  clear c2
  simp only [Option.some.injEq,Prod.mk.injEq] at H
  obtain ⟨rfl,rfl⟩:=H
  go_enter Try.func32,Try.ntmps32
  go_wp2
  go_ret2
  exact ⟨by first|rfl|(simp;done)|(simp [*];done),by repeat (first|exact a_Y.refl _|apply a_Y.step)⟩
 rw [if_neg c2] at H
 have c2b0 : decide (a0 < 0) = false:=decide_eq_false c2
 clear c2
 by_cases c3 : a0 > 8
 ·rw [if_pos c3] at H
  have c3b0 : decide (8 < a0) = true:=decide_eq_true c3
  clear c3
  simp only [Option.some.injEq,Prod.mk.injEq] at H
  obtain ⟨rfl,rfl⟩:=H
  go_enter Try.func32,Try.ntmps32
  go_wp2
  go_ret2
  exact ⟨by first|rfl|(simp;done)|(simp [*];done),by repeat (first|exact a_Y.refl _|apply a_Y.step)⟩
 rw [if_neg c3] at H
 have c3b0 : decide (8 < a0) = false:=decide_eq_false c3
 clear c3
 by_cases c4 : 0 ≤ a0
 rotate_left
 ·rw [if_neg c4] at H
  exact absurd H (by simp)
 rw [if_pos c4] at H
 have c4b0:=eq_true c4
 have c4b1 : decide (0 ≤ a0) = true:=decide_eq_true c4
 clear c4
 obtain ⟨ji5,hji5⟩ : ∃ j_ : Int,(shl .u32 1 a0) = j_:=⟨_,rfl⟩
 replace H : (some (((ji5) - 1) % 4294967296,0)) = some (r1,r2):=by first|(rw [hji5] at H;exact H)|(simp only [hji5] at H ⊢; exact H)
 have hji5_ : (IntKind.u32.wrap (1 * 2 ^ min a0.toNat 32)) = ji5:=hji5
 have hji5z : a0 ≤ 32 → (IntKind.u32.wrap (1 * 2 ^ a0.toNat)) = ji5:=d_S hji5
 have hji5u : (IntKind.u32.wrap (2 ^ min a0.toNat 32)) = ji5:=by have h_:=hji5_;rw [Int.one_mul] at h_;exact h_
 have hji5v : a0 ≤ 32 → (IntKind.u32.wrap (2 ^ a0.toNat)) = ji5:=fun hle_ => by have h_:=hji5z hle_;rw [Int.one_mul] at h_;exact h_
 simp only [Option.some.injEq,Prod.mk.injEq] at H
 obtain ⟨rfl,rfl⟩:=H
 go_enter Try.func32,Try.ntmps32
 go_wp2
 go_ret2
 exact ⟨by first|rfl|(simp;done)|(simp only [← hji5] <;> (first|rfl|simp))|(simp [*];done),by repeat (first|exact a_Y.refl _|apply a_Y.step)⟩
end Go.Proofs.Ytkhbffjfclepfaa.Q
end
section
namespace Go.Proofs.Ytkhbffjfclepfaa.Q
open Go.RowKit Go.Proofs.YtkhbffjfclepfaaW.PrintWords Go.Proofs.YtkhbffjfclepfaaW.PrintLast Go.Proofs.YtkhbffjfclepfaaW.PrintMore
set_option linter.unusedVariables false
set_option linter.unusedSimpArgs false
def d_o.f (a0 : Int) : Option (List Int × Int):=(b_O.f a0).bind fun bt102 => (if bt102.2 = 0 then (if bt102.1 = 0 then (some (([] : List Int),2)) else (some ((([bt102.1] : List Int)),0))) else (some (([] : List Int),2)))
set_option maxHeartbeats 8000000 in
set_option maxRecDepth 100000 in
theorem d_o.calls (a0 : Int) (r1 : List Int) (r2 : Int) (w : World) (h : d_o.f a0 = some (r1,r2)) :
 Calls Try.prog 10 #[.int .i64 a0] w fun e w' => ∃ v0_ : Value,e = .returned (.tuple #[.agg #[v0_],.int .i64 r2]) ∧ Kd.R (Kd.int .u32) 31 w' w.heap.size (fun _ => True) v0_ r1 ∧ Below w.heap.size w w':=by
 have hu26:=Try.underlying26
 have HB:=a_a.mk (Below.refl w.heap.size w)
 have H : ((b_O.f a0).bind fun bt102 => (if bt102.2 = 0 then (if bt102.1 = 0 then (some (([] : List Int),2)) else (some ((([bt102.1] : List Int)),0))) else (some (([] : List Int),2)))) = some (r1,r2):=h
 clear h
 replace H:=Option.bind_eq_some_iff.mp H
 obtain ⟨⟨t102,t103⟩,A20,H⟩:=H
 replace H : (if t103 = 0 then (if t102 = 0 then (some (([] : List Int),2)) else (some ((([t102] : List Int)),0))) else (some (([] : List Int),2))) = some (r1,r2):=H
 have A2:=a_a.mk A20
 clear A20
 by_cases c3 : t103 = 0
 rotate_left
 ·rw [if_neg c3] at H
  have c3b0 : (t103 == 0) = false:=beq_eq_false_iff_ne.mpr c3
  have c3b1 : (t103 != 0) = true:=bne_iff_ne.mpr c3
  simp only [Option.some.injEq,Prod.mk.injEq] at H
  obtain ⟨rfl,rfl⟩:=H
  go_enter Try.func10,Try.ntmps10
  go_wp2_with (first|((with_reducible refine a_w (N:=2) rfl ?_);refine a_v ?hg (N:=2) ?hd (cs:=#[.slice none 0 0]) (t:=26) ?hr ?_;(case hd => rfl);(case hg => rfl);(case hr => first|(go_simp;done)|(go_simp;rfl));intro c_P hg w12 hbox hb;have c_C:=a_a.mk (hbox);have i_S:=a_a.mk ((by rw [hg];exact (a_j (lup_ HB.out)) : w.heap.size ≤ c_P));have e_l:=a_a.mk ((by rw [hg];exact (a_j (lup_ HB.out)) : w.heap.size ≤ c_P));replace HB:=a_a.mk (a_i (lup_ HB.out) hb);clear hb hbox hg)|((with_reducible refine a_B (f:=32) rfl ?_);refine a_X (some 8) rfl rfl Try.func32 (by kernel_rfl) rfl #[.int .i64 a0] rfl (by (try simp only [List.map_toArray,List.map_cons,List.map_nil]);first|done|rfl|(simp only [List.length_drop,List.length_take];rfl)) ?_;(with_reducible refine (b_O.calls a0 t102 t103 _ A2.out).mono ?_);rintro e w' ⟨rfl,⟨nd,rfl⟩⟩;refine ⟨_,rfl,?_⟩;(try (rw [c_A w12];generalize hq_ : World.drewN w12 _ = w12;replace c_C : a_a (w12.heap[c_P]? = some (.cells #[.slice none 0 0] 26 (0,0))):=⟨by rw [← hq_];exact (bup_ c_C.out)⟩;replace HB : a_a (Below w.heap.size w w12):=⟨by rw [← hq_];exact (by repeat (first|(with_reducible first|exact HB.out|apply a_d|apply a_b|apply a_e|refine a_c ?_ e_l.out)|exact HB.out))⟩;clear hq_));have i_g : w12.cell? ⟨c_P,0,none⟩ = some (.slice none 0 0):=(a_m c_C.out 0).trans rfl;have i_h:=a_k c_C.out 0))
  refine bodyPost_ret (b_j rfl _ _ c_P 26 #[.slice none 0 0] (0,0) _ rfl (by (with_reducible repeat (first|refine a_n ?_ _|refine a_q ?_|refine a_s ?_ _));refine a_L (cs:=#[.slice none 0 0]) ?_ 0 _ rfl;(with_reducible repeat (first|refine a_n ?_ _|refine a_q ?_|refine a_s ?_ _));exact c_C.out) Try.underlying26 rfl (by kernel_rfl)) rfl ?_
  exact ⟨_,by first|rfl|(simp [a_z,a_y] <;> rfl)|(simp [*, a_z,a_y] <;> rfl),by first|exact Kd.c_z _ _ _ _ _|exact Kd.d_M _ _ _ _ _|exact Kd.d_I _ _ _ _ _|exact Kd.d_K _ _ _ _ _|exact Kd.d_L _ _ _ _ _,by repeat (first|(with_reducible first|exact HB.out|apply a_d|apply a_b|apply a_e|refine a_c ?_ e_l.out)|exact HB.out)⟩
 rw [if_pos c3] at H
 have c3b0 : (t103 == 0) = true:=beq_iff_eq.mpr c3
 have c3b1 : (t103 != 0) = false:=bne_eq_false_iff_eq.mpr c3
 clear c3
 by_cases c4 : t102 = 0
 ·rw [if_pos c4] at H
  have c4b0 : (t102 == 0) = true:=beq_iff_eq.mpr c4
  have c4b1 : (t102 != 0) = false:=bne_eq_false_iff_eq.mpr c4
  clear c4
  simp only [Option.some.injEq,Prod.mk.injEq] at H
  obtain ⟨rfl,rfl⟩:=H
  go_enter Try.func10,Try.ntmps10
  go_wp2_with (first|((with_reducible refine a_w (N:=2) rfl ?_);refine a_v ?hg (N:=2) ?hd (cs:=#[.slice none 0 0]) (t:=26) ?hr ?_;(case hd => rfl);(case hg => rfl);(case hr => first|(go_simp;done)|(go_simp;rfl));intro c_P hg w5 hbox hb;have c_C:=a_a.mk (hbox);have i_S:=a_a.mk ((by rw [hg];exact (a_j (lup_ HB.out)) : w.heap.size ≤ c_P));have e_l:=a_a.mk ((by rw [hg];exact (a_j (lup_ HB.out)) : w.heap.size ≤ c_P));replace HB:=a_a.mk (a_i (lup_ HB.out) hb);clear hb hbox hg)|((with_reducible refine a_B (f:=32) rfl ?_);refine a_X (some 8) rfl rfl Try.func32 (by kernel_rfl) rfl #[.int .i64 a0] rfl (by (try simp only [List.map_toArray,List.map_cons,List.map_nil]);first|done|rfl|(simp only [List.length_drop,List.length_take];rfl)) ?_;(with_reducible refine (b_O.calls a0 t102 t103 _ A2.out).mono ?_);rintro e w' ⟨rfl,⟨nd,rfl⟩⟩;refine ⟨_,rfl,?_⟩;(try (rw [c_A w5];generalize hq_ : World.drewN w5 _ = w5;replace c_C : a_a (w5.heap[c_P]? = some (.cells #[.slice none 0 0] 26 (0,0))):=⟨by rw [← hq_];exact (bup_ c_C.out)⟩;replace HB : a_a (Below w.heap.size w w5):=⟨by rw [← hq_];exact (by repeat (first|(with_reducible first|exact HB.out|apply a_d|apply a_b|apply a_e|refine a_c ?_ e_l.out)|exact HB.out))⟩;clear hq_));have d_t : w5.cell? ⟨c_P,0,none⟩ = some (.slice none 0 0):=(a_m c_C.out 0).trans rfl;have d_u:=a_k c_C.out 0))
  refine bodyPost_ret (b_j rfl _ _ c_P 26 #[.slice none 0 0] (0,0) _ rfl (by (with_reducible repeat (first|refine a_n ?_ _|refine a_q ?_|refine a_s ?_ _));refine a_L (cs:=#[.slice none 0 0]) ?_ 0 _ rfl;(with_reducible repeat (first|refine a_n ?_ _|refine a_q ?_|refine a_s ?_ _));exact c_C.out) Try.underlying26 rfl (by kernel_rfl)) rfl ?_
  exact ⟨_,by first|rfl|(simp [a_z,a_y] <;> rfl)|(simp [*, a_z,a_y] <;> rfl),by first|exact Kd.c_z _ _ _ _ _|exact Kd.d_M _ _ _ _ _|exact Kd.d_I _ _ _ _ _|exact Kd.d_K _ _ _ _ _|exact Kd.d_L _ _ _ _ _,by repeat (first|(with_reducible first|exact HB.out|apply a_d|apply a_b|apply a_e|refine a_c ?_ e_l.out)|exact HB.out)⟩
 rw [if_neg c4] at H
 have c4b0 : (t102 == 0) = false:=beq_eq_false_iff_ne.mpr c4
 have c4b1 : (t102 != 0) = true:=bne_iff_ne.mpr c4
 obtain ⟨y104,hy104⟩ : ∃ y_ : List Int,y_ = (([t102] : List Int)):=⟨_,rfl⟩
 replace H : (some (y104,0)) = some (r1,r2):=by first|(rw [hy104];with_reducible exact H)|(have H2_:=(Option.bind_some _ _).symm.trans H;rw [hy104];with_reducible exact H2_)|(have H2_:=(Option.bind_some _ _).symm.trans H;with_reducible exact H2_)|with_reducible exact H|(rw [hy104];exact H)|exact H
 have Ny104:=a_a.mk hy104
 clear hy104
 simp only [Option.some.injEq,Prod.mk.injEq] at H
 obtain ⟨rfl,rfl⟩:=H
 go_enter Try.func10,Try.ntmps10
 go_wp2_with (first|((with_reducible refine a_w (N:=2) rfl ?_);refine a_v ?hg (N:=2) ?hd (cs:=#[.slice none 0 0]) (t:=26) ?hr ?_;(case hd => rfl);(case hg => rfl);(case hr => first|(go_simp;done)|(go_simp;rfl));intro c_P hg w7 hbox hb;have c_C:=a_a.mk (hbox);have i_S:=a_a.mk ((by rw [hg];exact (a_j (lup_ HB.out)) : w.heap.size ≤ c_P));have e_l:=a_a.mk ((by rw [hg];exact (a_j (lup_ HB.out)) : w.heap.size ≤ c_P));replace HB:=a_a.mk (a_i (lup_ HB.out) hb);clear hb hbox hg)|((with_reducible refine a_B (f:=32) rfl ?_);refine a_X (some 8) rfl rfl Try.func32 (by kernel_rfl) rfl #[.int .i64 a0] rfl (by (try simp only [List.map_toArray,List.map_cons,List.map_nil]);first|done|rfl|(simp only [List.length_drop,List.length_take];rfl)) ?_;(with_reducible refine (b_O.calls a0 t102 t103 _ A2.out).mono ?_);rintro e w' ⟨rfl,⟨nd,rfl⟩⟩;refine ⟨_,rfl,?_⟩;(try (rw [c_A w7];generalize hq_ : World.drewN w7 _ = w7;replace c_C : a_a (w7.heap[c_P]? = some (.cells #[.slice none 0 0] 26 (0,0))):=⟨by rw [← hq_];exact (bup_ c_C.out)⟩;replace HB : a_a (Below w.heap.size w w7):=⟨by rw [← hq_];exact (by repeat (first|(with_reducible first|exact HB.out|apply a_d|apply a_b|apply a_e|refine a_c ?_ e_l.out)|exact HB.out))⟩;clear hq_)))|((with_reducible refine a_w (N:=19) rfl ?_);refine Kd.c_T (Kd.int .u32) _ 31 ?hg (N:=19) ?hd (xs:=([t102] : List Int)) (inner:=[.int .u32 t102]) (ok:=fun _ => True) (okp:=fun _ => True) ?hr ?hp (fun _ hk => hk) trivial (Below.refl _ _) (Nat.le_refl _) (by simp) ?_;(case hd => rfl);(case hg => rfl);(case hr => first|(go_simp;done)|(go_simp;rfl));(case hp => exact (Reps.one (show Kd.M (Kd.int .u32) _ _ _ t102 [.int .u32 t102] from rfl) (Reps.none _ _)));intro v105 w8 ho9 hb hg_ hnew_;clear hg_ hnew_;(first|rw [← Ny104.out] at ho9|(simp only [Int.reduceToNat] at ho9;rw [← Ny104.out] at ho9));have i_T:=a_a.mk (Kd.a_S ho9 (a_j (by repeat (first|(with_reducible first|exact HB.out|apply a_d|apply a_b|apply a_e|refine a_c ?_ e_l.out)|exact HB.out))));replace c_C:=a_a.mk (a_f (bup_ c_C.out) hb);replace HB:=a_a.mk (a_i (by repeat (first|(with_reducible first|exact HB.out|apply a_d|apply a_b|apply a_e|refine a_c ?_ e_l.out)|exact HB.out)) hb);clear hb ho9;obtain ⟨Ao10,co10,eo10⟩:=Kd.a_P i_T.out;subst eo10;have i_d : w8.cell? ⟨c_P,0,none⟩ = some (.slice none 0 0):=(a_m c_C.out 0).trans rfl;have i_e:=a_k c_C.out 0))
 refine bodyPost_ret (b_j rfl _ _ c_P 26 #[.slice Ao10 y104.length co10] (0,0) _ rfl (by (with_reducible repeat (first|refine a_n ?_ _|refine a_q ?_|refine a_s ?_ _));refine a_L (cs:=#[.slice none 0 0]) ?_ 0 _ rfl;(with_reducible repeat (first|refine a_n ?_ _|refine a_q ?_|refine a_s ?_ _));exact c_C.out) Try.underlying26 rfl (by kernel_rfl)) rfl ?_
 exact ⟨_,by first|rfl|(simp [a_z,a_y] <;> rfl)|(simp [*, a_z,a_y] <;> rfl),by (with_reducible repeat (first|apply Kd.a_J|apply Kd.a_I|apply Kd.a_M));exact Kd.a_U (Kd.b_i (p:=⟨c_P,0,none⟩) (Kd.a_N i_T.out c_C.out (by decide)) (fun _ hk => hk.2) (.slice Ao10 y104.length co10)) (fun _ hk => trivial),by repeat (first|(with_reducible first|exact HB.out|apply a_d|apply a_b|apply a_e|refine a_c ?_ e_l.out)|exact HB.out)⟩
end Go.Proofs.Ytkhbffjfclepfaa.Q
end
section
namespace Go.Proofs.Ytkhbffjfclepfaa.Q
open Go.RowKit Go.Proofs.YtkhbffjfclepfaaW.PrintWords Go.Proofs.YtkhbffjfclepfaaW.PrintLast Go.Proofs.YtkhbffjfclepfaaW.PrintMore
set_option linter.unusedVariables false
set_option linter.unusedSimpArgs false
set_option maxHeartbeats 2000000 in
theorem c_4.any (g : Nat) (lb : Array Value) (eg : ∀ args w,(callFunc g args).run Try.prog w = .ok (.enter g args) w) (p : Int → Bool) (A : Option Addr) (c : Nat) (xs : List Int) (w : World)
 (hr : Kd.C (Kd.int .i64) w A xs.length xs) (hlen : xs.length ≤ 35184372088832)
 (hp : ∀ W,Below w.heap.size w W → ∀ x ∈ xs,Calls Try.prog g (#[.int .i64 x] ++ lb) W fun e W' => e = .returned (.bool (p x)) ∧ Below W.heap.size W W') :
 Calls Try.prog 59 #[.slice A xs.length c,.func (.func g) #[] lb] w fun e w' => e = .returned (.int .i64 (idxOf p xs)) ∧ Below w.heap.size w w':=by
 have HP:=a_a.mk hp
 have HR:=a_a.mk hr
 clear hp hr
 go_enter Try.func59,Try.ntmps59
 go_wp2
 go_loopg [5,8] xs.length (fun gg _ s8 wr => ∃ kk : Nat,s8 = .int .i64 kk ∧ kk ≤ xs.length ∧ xs.length - kk ≤ gg ∧ a_a (Below w.heap.size w wr) ∧ a_a (∀ j (hj : j < kk) (hj2 : j < xs.length),p xs[j] = false))
 case atStart => exact ⟨0,rfl,Nat.zero_le _,by omega,⟨Below.refl _ _⟩,⟨fun j hj => absurd hj (Nat.not_lt_zero _)⟩⟩
 case round =>
  obtain ⟨kk,rfl,hkk,hg,HB,HN⟩:=hrel
  by_cases hlt : kk < xs.length
  rotate_left
  ·have hltz : ¬ (kk : Int) < (xs.length : Int):=by omega
   have : kk = xs.length:=by omega
   go_wp2
   go_ret
   refine ⟨?_,HB.out⟩
   rw [idxOf_miss (fun j hj => HN.out j (by omega) hj)];rfl
  have hltz : (kk : Int) < (xs.length : Int):=by omega
  obtain ⟨ad,rfl,hcell⟩:=Kd.b_z (Kd.a_O HR.out HB.out) (kk : Int) (by omega) (by omega)
  have hx:=List.getElem_mem hlt
  have hrd : rd xs (kk : Int) = xs[kk]:=by unfold rd;simp [hlt]
  rw [hrd] at hcell
  simp only [Int.toNat_natCast] at hcell
  have hcall:=HP.out _ HB.out _ hx
  generalize hy : xs[kk] = y at hcell hcall hx
  have HY:=a_a.mk hy
  clear hy hx hrd
  cases hq : p y with
  | true =>
   rw [hq] at hcall
   go_wp2_with (go_at_fn g;refine hcall.mono ?_;rintro e w' ⟨rfl,hb'⟩)
   go_ret
   refine ⟨?_,HB.out.trans (hb'.mono (a_j HB.out))⟩
   rw [idxOf_hit hlt (by rw [HY.out];exact hq) (fun j hj => HN.out j hj (by omega))];rfl
  | false =>
   rw [hq] at hcall
   go_wp2_with (go_at_fn g;refine hcall.mono ?_;rintro e w' ⟨rfl,hb'⟩)
   go_roundg (xs.length - (kk + 1))
   case measure => omega
   case rel =>
    exact ⟨kk + 1,by go_num,by omega,by omega,⟨HB.out.trans (hb'.mono (a_j HB.out))⟩,⟨fun j hj hj2 => by
     by_cases e : j = kk
     ·subst e;rw [HY.out];exact hq
     exact HN.out j (by omega) hj2⟩⟩
end Go.Proofs.Ytkhbffjfclepfaa.Q
end
section
namespace Go.Proofs.Ytkhbffjfclepfaa.Q
open Go.RowKit Go.Proofs.YtkhbffjfclepfaaW.PrintWords Go.Proofs.YtkhbffjfclepfaaW.PrintLast Go.Proofs.YtkhbffjfclepfaaW.PrintMore
set_option linter.unusedVariables false
set_option linter.unusedSimpArgs false
set_option maxHeartbeats 2000000 in
theorem c_H.any (g : Nat) (lb : Array Value) (eg : ∀ args w,(callFunc g args).run Try.prog w = .ok (.enter g args) w) (p : Int → Bool) (A : Option Addr) (c : Nat) (xs : List Int) (w : World)
 (hr : Kd.C (Kd.int .i64) w A xs.length xs) (hlen : xs.length ≤ 35184372088832)
 (hp : ∀ W,Below w.heap.size w W → ∀ x ∈ xs,Calls Try.prog g (#[.int .i64 x] ++ lb) W fun e W' => e = .returned (.bool (p x)) ∧ Below W.heap.size W W') :
 Calls Try.prog 55 #[.slice A xs.length c,.func (.func g) #[] lb] w fun e w' => e = .returned (.bool (xs.any p)) ∧ Below w.heap.size w w':=by
 rw [← e_L]
 have HP:=a_a.mk hp
 have HR:=a_a.mk hr
 clear hp hr
 go_enter Try.func55,Try.ntmps55
 go_wp2_with (go_at_call 59;refine (c_4.any g lb eg p A c xs _ HR.out hlen HP.out).mono ?_;rintro e w' ⟨rfl,hb⟩)
 go_ret
 exact ⟨rfl,hb⟩
end Go.Proofs.Ytkhbffjfclepfaa.Q
end
section
namespace Go.Proofs.Ytkhbffjfclepfaa.Q
open Go.RowKit Go.Proofs.YtkhbffjfclepfaaW.PrintWords Go.Proofs.YtkhbffjfclepfaaW.PrintLast Go.Proofs.YtkhbffjfclepfaaW.PrintMore
set_option linter.unusedVariables false
set_option linter.unusedSimpArgs false
set_option maxHeartbeats 2000000 in
theorem f_Z.calls (g : Nat) (A : Option Addr) (m c : Nat) (n : Int) (w : World) (hb : w.heap[g]? = some (.cells #[.slice A m c] 26 (0,0))) :
 Calls Try.prog 56 (#[.int .i64 n] ++ #[.pointer (some ⟨g,0,none⟩)]) w fun e w' => e = .returned (.bool (decide (n < 0) || decide ((m : Int) ≤ n))) ∧ Below w.heap.size w w':=by
 have hc:=(a_m hb 0).trans rfl
 have hf:=a_k hb 0
 clear hb
 by_cases h : n < 0
 ·have h1 : decide (n < 0) = true:=decide_eq_true h
  go_enter Try.func56,Try.ntmps56
  go_wp2
  go_ret
  exact ⟨by simp [h],Below.refl _ _⟩
 have h1 : decide (n < 0) = false:=decide_eq_false h
 go_enter Try.func56,Try.ntmps56
 go_wp2
 go_ret
 exact ⟨by simp [h],Below.refl _ _⟩
def b_f.f (l0_0 : List Int) (l1 : List Int) : Option Bool :=
 if l1.length ≤ 35184372088832 then some (!(l1.any fun n => decide (n < 0) || decide ((l0_0.length : Int) ≤ n))) else none
set_option maxHeartbeats 2000000 in
theorem b_f.calls (A0_0 : Option Addr) (c0_0 : Nat) (l0_0 : List Int) (A1 : Option Addr) (c1 : Nat) (l1 : List Int) (r : Bool) (w : World) (hr0_0 : Kd.C (Kd.int .u32) w A0_0 l0_0.length l0_0) (hc0_0 : l0_0.length ≤ c0_0)
 (hr1 : Kd.C (Kd.int .i64) w A1 l1.length l1) (hc1 : l1.length ≤ c1) (h : b_f.f l0_0 l1 = some r) :
 Calls Try.prog 44 #[.agg #[.slice A0_0 l0_0.length c0_0],.slice A1 l1.length c1] w fun e w' => e = .returned (.bool r) ∧ Below w.heap.size w w':=by
 unfold b_f.f at h
 split at h
 case isFalse => cases h
 case isTrue hl =>
 obtain rfl:=Option.some.inj h
 have eg : ∀ args w,(callFunc 56 args).run Try.prog w = .ok (.enter 56 args) w:=d_1 Try.func56 (by kernel_rfl) rfl
 have HR:=a_a.mk hr1
 clear h hr0_0 hr1 hc1
 have HP:=a_a.mk (fun W (hW : Below (w.alloc (.cells #[.slice A0_0 l0_0.length c0_0] 26)).heap.size (w.alloc (.cells #[.slice A0_0 l0_0.length c0_0] 26)) W) x (_ : x ∈ l1) => f_Z.calls w.heap.size A0_0 l0_0.length c0_0 x W ((hW.block w.heap.size (by simp)).trans (g_b _ _)))
 go_enter Try.func44,Try.ntmps44
 go_wp2_with (go_at_call 55;refine (c_H.any 56 _ eg (fun n => decide (n < 0) || decide ((l0_0.length : Int) ≤ n)) A1 c1 l1 _ (Kd.a_Q HR.out _) hl HP.out).mono ?_;rintro e w' ⟨rfl,hb⟩)
 go_ret
 exact ⟨rfl,((Below.refl _ _).alloc (Nat.le_refl _) _).trans (hb.mono (by simp))⟩
end Go.Proofs.Ytkhbffjfclepfaa.Q
end
section
namespace Go.Proofs.Ytkhbffjfclepfaa.Q
open Go.RowKit Go.Proofs.YtkhbffjfclepfaaW.PrintWords Go.Proofs.YtkhbffjfclepfaaW.PrintLast Go.Proofs.YtkhbffjfclepfaaW.PrintMore
set_option linter.unusedVariables false
set_option linter.unusedSimpArgs false
set_option maxHeartbeats 2000000 in
theorem c_B.calls (ad : Addr) (c0 : Nat) (l : List Int) (w : World) (hr : Kd.C (Kd.int .u32) w (some ad) l.length l) (hl : l.length < 35184372088832) :
 Calls Try.prog 57 #[.slice (some ad) l.length c0] w fun e w' => ∃ v : Value,e = .returned v ∧ Kd.R (Kd.int .u32) 31 w' w.heap.size (fun _ => True) v l ∧ Below w.heap.size w w':=by
 have HR:=a_a.mk hr
 have HL:=a_a.mk hl
 clear hr hl
 have HB:=a_a.mk (Below.refl w.heap.size w)
 have hnil := @Lib.run_eql_slice_nil Try.prog
 go_enter Try.func57,Try.ntmps57
 go_wp2_with (first|((with_reducible refine a_w (N:=5) rfl ?_);refine Kd.c_T (Kd.int .u32) _ 31 ?hg (N:=5) ?hd (xs:=([] : List Int)) (inner:=[]) (ok:=fun _ => True) (okp:=fun _ => True) ?hr ?hp (fun _ hk => hk) trivial (Below.refl _ _) (Nat.le_refl _) (by simp) ?_;(case hd => rfl);(case hg => rfl);(case hr => first|(go_simp;done)|(go_simp;rfl));(case hp => exact (Reps.none _ _));intro v121 w5 ho6 hb hg_ hnew_;clear hg_ hnew_;have HO:=a_a.mk ho6;have n3_:=a_a.mk (a_i HB.out hb);clear HB;have HB:=n3_;clear n3_ hb ho6)|((with_reducible refine b_a (b:=.append) (xs:=#[.tmp 5,.tmp 6]) rfl ?_);at_builtin;refine Kd.b_w (Kd.int .u32) (w0:=w) w.heap.size rfl (.tmp 5) (.tmp 6) 24 31 (.int .u32 0) 4 rfl Try.underlying24 e_n rfl (by decide) (by omega) v121 [] l _ _ _ (fun _ => True) (fun _ => False) rfl rfl ?aO ?aR (fun _ _ h => h) (fun _ h => h.elim) ?aF ?aB ?aS ?aL ?_;(case aR => exact (Kd.a_O HR.out HB.out));(case aB => exact HB.out);(case aF => exact (fun _ _ => trivial));(case aO => exact HO.out);(case aS => exact HB.out.size);(case aL => have:=HL.out;simp;omega);intro v124 w9 ho hb hg hat;have HO2:=a_a.mk ho;have HB2:=a_a.mk hb;clear ho hb hg hat))
 go_ret
 exact ⟨_,rfl,HO2.out,HB2.out⟩
end Go.Proofs.Ytkhbffjfclepfaa.Q
end
section
namespace Go.Proofs.Ytkhbffjfclepfaa.Q
open Go.RowKit Go.Proofs.YtkhbffjfclepfaaW.PrintWords Go.Proofs.YtkhbffjfclepfaaW.PrintLast Go.Proofs.YtkhbffjfclepfaaW.PrintMore
set_option linter.unusedVariables false
set_option linter.unusedSimpArgs false
set_option maxHeartbeats 2000000 in
theorem c_a.does (g : Nat) (lb : Array Value) (eg : ∀ args w,(callFunc g args).run Try.prog w = .ok (.enter g args) w) (base : Nat) (M : Nat → Prop) (k : Nat) (ad : Addr) (c0 : Nat) (l : List Int) (A1 : Option Addr) (c1 : Nat) (ns : List Int) (w : World)
 (hr : Kd.C (Kd.int .u32) w (some ad) l.length l) (hc : l.length ≤ c0) (hr1 : Kd.C (Kd.int .i64) w A1 ns.length ns) (hc1 : ns.length ≤ c1) (hbase : base ≤ w.heap.size) (hM : ∀ k,M k → k < w.heap.size) (hec : a_x.f k l = some 0) (hp : b_f.f l ns = some true) (hl : l.length < 35184372088832)
 (err : Int) (l' : List Int) (J' : World → Prop) (hJ' : ∀ W W',J' W → (∀ k,M k → W'.heap[k]? = W.heap[k]?) → J' W')
 (hdo : ∀ W gq v,Below w.heap.size w W → w.heap.size ≤ gq → W.heap[gq]? = some (.cells #[v] 26 (0,0)) → Kd.R (Kd.int .u32) 31 W w.heap.size (fun _ => True) v l →
  Calls Try.prog g (#[.pointer (some ⟨gq,0,none⟩)] ++ lb) W fun e W' => e = .returned (.int .i64 err) ∧ Below base W W' ∧ J' W' ∧ (∀ k,k < W.heap.size → k ≠ gq → ¬ M k → some k ≠ v.ownBlock → W'.heap[k]? = W.heap[k]?) ∧ (err = 0 → ∃ v',W'.heap[gq]? = some (.cells #[v'] 26 (0,0)) ∧ Kd.R (Kd.int .u32) 31 W' w.heap.size (fun _ => True) v' l')) :
 Calls Try.prog 45 #[.agg #[.slice (some ad) l.length c0],.func (.func g) #[] lb,.slice A1 ns.length c1] w fun e w' => ∃ v,e = .returned (.tuple #[.agg #[v],.int .i64 err]) ∧ Kd.R (Kd.int .u32) 31 w' w.heap.size (fun _ => True) v (if err = 0 then l' else []) ∧ Below base w w' ∧ J' w' ∧ (∀ k,k < w.heap.size → ¬ M k → w'.heap[k]? = w.heap[k]?):=by
 have HR:=a_a.mk hr
 have HC:=a_a.mk hc
 have HR1:=a_a.mk hr1
 have HC1:=a_a.mk hc1
 have HE:=a_a.mk hec
 have HP:=a_a.mk hp
 have HL:=a_a.mk hl
 have HD:=a_a.mk hdo
 have HJ:=a_a.mk hJ'
 have HM:=a_a.mk hM
 have HBS:=a_a.mk hbase
 clear hr hc hr1 hc1 hec hp hl hdo hJ' hM hbase
 have HB:=a_a.mk (Below.refl w.heap.size w)
 by_cases herr : err = 0
 ·subst herr
  simp only [if_true]
  go_enter Try.func45,Try.ntmps45
  go_wp2_with (first
   | ((with_reducible refine a_w (N:=3) rfl ?_);refine a_v ?hg (N:=3) ?hd (cs:=#[.slice (some ad) l.length c0]) (t:=26) ?hr ?_;(case hd => rfl);(case hg => rfl);(case hr => first|(go_simp;done)|(go_simp;rfl));intro gbp hg wbp hbox hb;have m0_:=a_a.mk (a_i HB.out hb);have m1_:=a_a.mk (hbox);have m2_:=a_a.mk ((by rw [hg];exact HB.out.size : w.heap.size ≤ gbp));(try clear HB);have HB:=m0_;have BKp:=m1_;have GEp:=m2_;clear m0_ m1_ m2_ hb hbox hg)
   | ((with_reducible refine a_w (N:=6) rfl ?_);refine a_v ?hg (N:=6) ?hd (cs:=#[.slice none 0 0]) (t:=26) ?hr ?_;(case hd => rfl);(case hg => rfl);(case hr => first|(go_simp;done)|(go_simp;rfl));intro gbq hg wbq hbox hb;have m0_:=a_a.mk (a_f (g:=gbp) (o:=.cells #[.slice (some ad) l.length c0] 26 (0,0)) BKp.out hb);have m1_:=a_a.mk (a_i HB.out hb);have m2_:=a_a.mk (hbox);have m3_:=a_a.mk ((by rw [hg];exact HB.out.size : w.heap.size ≤ gbq));have m4_:=a_a.mk ((by rw [hg];exact Nat.ne_of_lt (a_o BKp.out) : gbp ≠ gbq));have m5_:=a_a.mk ((by rw [hg];exact Nat.ne_of_gt (a_o BKp.out) : gbq ≠ gbp));(try clear BKp);(try clear HB);have BKp:=m0_;have HB:=m1_;have BKq:=m2_;have GEq:=m3_;have NBp_q:=m4_;have NBq_p:=m5_;clear m0_ m1_ m2_ m3_ m4_ m5_ hb hbox hg;have hcz1_p_0 : World.cell? _ ⟨gbp,0,none⟩ = some (.slice (some ad) l.length c0):=(a_m BKp.out 0).trans rfl;have hfz1_p:=a_k BKp.out 0)
   | (go_at_call 17;(with_reducible refine (a_x.calls k _ _ l 0 _ ?s1 HC.out HE.out).mono ?_);(case s1 => exact Kd.a_O HR.out HB.out);rintro e w' ⟨rfl,hb⟩;clear hcz1_p_0 hfz1_p;have m0_:=a_a.mk (a_f (g:=gbp) (o:=.cells #[.slice (some ad) l.length c0] 26 (0,0)) BKp.out hb);have m1_:=a_a.mk (a_f (g:=gbq) (o:=.cells #[.slice none 0 0] 26 (0,0)) BKq.out hb);have m2_:=a_a.mk (a_i HB.out hb);(try clear BKp);(try clear BKq);(try clear HB);have BKp:=m0_;have BKq:=m1_;have HB:=m2_;clear m0_ m1_ m2_ hb;have hcz2_p_0 : World.cell? _ ⟨gbp,0,none⟩ = some (.slice (some ad) l.length c0):=(a_m BKp.out 0).trans rfl;have hfz2_p:=a_k BKp.out 0)
   | (go_at_call 44;(with_reducible refine (b_f.calls _ _ l _ _ ns true _ ?s1 HC.out ?s2 HC1.out HP.out).mono ?_);(case s1 => exact Kd.a_O HR.out HB.out);(case s2 => exact Kd.a_O HR1.out HB.out);rintro e w' ⟨rfl,hb⟩;clear hcz2_p_0 hfz2_p;have m0_:=a_a.mk (a_f (g:=gbp) (o:=.cells #[.slice (some ad) l.length c0] 26 (0,0)) BKp.out hb);have m1_:=a_a.mk (a_f (g:=gbq) (o:=.cells #[.slice none 0 0] 26 (0,0)) BKq.out hb);have m2_:=a_a.mk (a_i HB.out hb);(try clear BKp);(try clear BKq);(try clear HB);have BKp:=m0_;have BKq:=m1_;have HB:=m2_;clear m0_ m1_ m2_ hb;have hcz3_p_0 : World.cell? _ ⟨gbp,0,none⟩ = some (.slice (some ad) l.length c0):=(a_m BKp.out 0).trans rfl;have hfz3_p:=a_k BKp.out 0)
   | (go_at_call 57;(with_reducible refine (c_B.calls _ _ l _ ?s1 HL.out).mono ?_);(case s1 => exact Kd.a_O HR.out HB.out);rintro e w' ⟨v,rfl,ho,hb⟩;clear hcz3_p_0 hfz3_p;have m0_:=a_a.mk (a_f (g:=gbp) (o:=.cells #[.slice (some ad) l.length c0] 26 (0,0)) BKp.out hb);have m1_:=a_a.mk (a_f (g:=gbq) (o:=.cells #[.slice none 0 0] 26 (0,0)) BKq.out hb);have m2_:=a_a.mk (a_i HB.out hb);have m3_:=a_a.mk (Kd.a_S ho HB.out.size);(try clear BKp);(try clear BKq);(try clear HB);have BKp:=m0_;have BKq:=m1_;have HB:=m2_;have HOv:=m3_;clear m0_ m1_ m2_ m3_ hb ho;obtain ⟨Av,cv,ev⟩:=Kd.a_P HOv.out;subst ev)
   | ((with_reducible refine a_w (N:=9) rfl ?_);refine a_v ?hg (N:=9) ?hd (cs:=#[.slice none 0 0]) (t:=26) ?hr ?_;(case hd => rfl);(case hg => rfl);(case hr => first|(go_simp;done)|(go_simp;rfl));intro gbn hg wbn hbox hb;have m0_:=a_a.mk (a_f (g:=gbp) (o:=.cells #[.slice (some ad) l.length c0] 26 (0,0)) BKp.out hb);have m1_:=a_a.mk (a_f (g:=gbq) (o:=.cells #[.slice none 0 0] 26 (0,0)) BKq.out hb);have m2_:=a_a.mk (Kd.a_F HOv.out hb);have m3_:=a_a.mk (a_i HB.out hb);have m4_:=a_a.mk (hbox);have m5_:=a_a.mk ((by rw [hg];exact HB.out.size : w.heap.size ≤ gbn));have m6_:=a_a.mk ((by rw [hg];exact Nat.ne_of_lt (a_o BKp.out) : gbp ≠ gbn));have m7_:=a_a.mk ((by rw [hg];exact Nat.ne_of_gt (a_o BKp.out) : gbn ≠ gbp));have m8_:=a_a.mk ((by rw [hg];exact Nat.ne_of_lt (a_o BKq.out) : gbq ≠ gbn));have m9_:=a_a.mk ((by rw [hg];exact Nat.ne_of_gt (a_o BKq.out) : gbn ≠ gbq));(try clear BKp);(try clear BKq);(try clear HOv);(try clear HB);have BKp:=m0_;have BKq:=m1_;have HOv:=m2_;have HB:=m3_;have BKn:=m4_;have GEn:=m5_;have NBp_n:=m6_;have NBn_p:=m7_;have NBq_n:=m8_;have NBn_q:=m9_;clear m0_ m1_ m2_ m3_ m4_ m5_ m6_ m7_ m8_ m9_ hb hbox hg;have hcz4_n_0 : World.cell? _ ⟨gbn,0,none⟩ = some (.slice none 0 0):=(a_m BKn.out 0).trans rfl;have hfz4_n:=a_k BKn.out 0)
   | (go_at_fn g;refine (HD.out _ gbn (.slice Av l.length cv) ?d1 GEn.out ?d2 ?d3).mono ?_;(case d1 => exact a_c HB.out GEn.out);(case d2 => exact a_L (cs:=#[.slice none 0 0]) BKn.out 0 _ rfl);(case d3 => exact Kd.c_N HOv.out BKn.out (by decide) 0 _);rintro e w' ⟨rfl,hbb,hj,hk,hq⟩;clear hcz4_n_0 hfz4_n;have KQ:=a_a.mk ((hk gbq (by have:=a_o BKq.out;simpa [World.setCell] using this) NBq_n.out (fun hm => Nat.not_lt.2 GEq.out (HM.out _ hm)) (Kd.R_ne HOv.out BKq.out (by decide))).trans (a_G BKq.out (p:=⟨gbn,0,none⟩) NBq_n.out (.slice Av l.length cv)));have hcq : World.cell? _ ⟨gbq,0,none⟩ = some (.slice none 0 0):=(a_m KQ.out 0).trans rfl;have hfq:=a_k KQ.out 0;have HBB:=a_a.mk hbb;have HJ2:=a_a.mk hj;have HK:=a_a.mk hk;have hnq:=NBq_n.out;have hnq2:=NBn_q.out;clear hbb hj hk;obtain ⟨v',hbn,hov⟩:=hq (by trivial);obtain ⟨Aw,cw,ew⟩:=Kd.a_P hov;subst ew;have KN:=a_a.mk hbn;have HOW:=a_a.mk hov;clear hbn hov;have hcn : World.cell? _ ⟨gbn,0,none⟩ = some (.slice Aw l'.length cw):=(a_m KN.out 0).trans rfl))
  refine bodyPost_ret (b_j rfl _ _ gbq 26 #[.slice Aw l'.length cw] (0,0) _ rfl (a_L (cs:=#[.slice none 0 0]) KQ.out 0 _ rfl) Try.underlying26 rfl (by kernel_rfl)) rfl ?_
  refine ⟨_,rfl,Kd.c_N HOW.out KQ.out (by decide) 0 _,((HB.out.setCell GEn.out _).mono HBS.out |>.trans HBB.out).setCell (Nat.le_trans HBS.out GEq.out) _,HJ.out _ _ HJ2.out (fun k_ hk_ => c_m (HM.out _ hk_) GEq.out),fun k_ hk_ hm_ => ?_⟩
  refine (c_m hk_ GEq.out).trans ((HK.out k_ (by have:=HB.out.size;simp [World.setCell];omega) (Nat.ne_of_lt (Nat.lt_of_lt_of_le hk_ GEn.out)) hm_ (fun e_ => Nat.not_lt.2 (Kd.c_g HOv.out k_ e_.symm) hk_)).trans ?_)
  exact (c_m hk_ GEn.out).trans (HB.out.block k_ hk_)
 rw [if_neg herr]
 have hb1 : (err != 0) = true:=bne_iff_ne.mpr herr
 clear herr
 go_enter Try.func45,Try.ntmps45
 go_wp2_with (first
  | ((with_reducible refine a_w (N:=3) rfl ?_);refine a_v ?hg (N:=3) ?hd (cs:=#[.slice (some ad) l.length c0]) (t:=26) ?hr ?_;(case hd => rfl);(case hg => rfl);(case hr => first|(go_simp;done)|(go_simp;rfl));intro gbp hg wbp hbox hb;have m0_:=a_a.mk (a_i HB.out hb);have m1_:=a_a.mk (hbox);have m2_:=a_a.mk ((by rw [hg];exact HB.out.size : w.heap.size ≤ gbp));(try clear HB);have HB:=m0_;have BKp:=m1_;have GEp:=m2_;clear m0_ m1_ m2_ hb hbox hg)
  | ((with_reducible refine a_w (N:=6) rfl ?_);refine a_v ?hg (N:=6) ?hd (cs:=#[.slice none 0 0]) (t:=26) ?hr ?_;(case hd => rfl);(case hg => rfl);(case hr => first|(go_simp;done)|(go_simp;rfl));intro gbq hg wbq hbox hb;have m0_:=a_a.mk (a_f (g:=gbp) (o:=.cells #[.slice (some ad) l.length c0] 26 (0,0)) BKp.out hb);have m1_:=a_a.mk (a_i HB.out hb);have m2_:=a_a.mk (hbox);have m3_:=a_a.mk ((by rw [hg];exact HB.out.size : w.heap.size ≤ gbq));have m4_:=a_a.mk ((by rw [hg];exact Nat.ne_of_lt (a_o BKp.out) : gbp ≠ gbq));have m5_:=a_a.mk ((by rw [hg];exact Nat.ne_of_gt (a_o BKp.out) : gbq ≠ gbp));(try clear BKp);(try clear HB);have BKp:=m0_;have HB:=m1_;have BKq:=m2_;have GEq:=m3_;have NBp_q:=m4_;have NBq_p:=m5_;clear m0_ m1_ m2_ m3_ m4_ m5_ hb hbox hg;have hcz1_p_0 : World.cell? _ ⟨gbp,0,none⟩ = some (.slice (some ad) l.length c0):=(a_m BKp.out 0).trans rfl;have hfz1_p:=a_k BKp.out 0)
  | (go_at_call 17;(with_reducible refine (a_x.calls k _ _ l 0 _ ?s1 HC.out HE.out).mono ?_);(case s1 => exact Kd.a_O HR.out HB.out);rintro e w' ⟨rfl,hb⟩;clear hcz1_p_0 hfz1_p;have m0_:=a_a.mk (a_f (g:=gbp) (o:=.cells #[.slice (some ad) l.length c0] 26 (0,0)) BKp.out hb);have m1_:=a_a.mk (a_f (g:=gbq) (o:=.cells #[.slice none 0 0] 26 (0,0)) BKq.out hb);have m2_:=a_a.mk (a_i HB.out hb);(try clear BKp);(try clear BKq);(try clear HB);have BKp:=m0_;have BKq:=m1_;have HB:=m2_;clear m0_ m1_ m2_ hb;have hcz2_p_0 : World.cell? _ ⟨gbp,0,none⟩ = some (.slice (some ad) l.length c0):=(a_m BKp.out 0).trans rfl;have hfz2_p:=a_k BKp.out 0)
  | (go_at_call 44;(with_reducible refine (b_f.calls _ _ l _ _ ns true _ ?s1 HC.out ?s2 HC1.out HP.out).mono ?_);(case s1 => exact Kd.a_O HR.out HB.out);(case s2 => exact Kd.a_O HR1.out HB.out);rintro e w' ⟨rfl,hb⟩;clear hcz2_p_0 hfz2_p;have m0_:=a_a.mk (a_f (g:=gbp) (o:=.cells #[.slice (some ad) l.length c0] 26 (0,0)) BKp.out hb);have m1_:=a_a.mk (a_f (g:=gbq) (o:=.cells #[.slice none 0 0] 26 (0,0)) BKq.out hb);have m2_:=a_a.mk (a_i HB.out hb);(try clear BKp);(try clear BKq);(try clear HB);have BKp:=m0_;have BKq:=m1_;have HB:=m2_;clear m0_ m1_ m2_ hb;have hcz3_p_0 : World.cell? _ ⟨gbp,0,none⟩ = some (.slice (some ad) l.length c0):=(a_m BKp.out 0).trans rfl;have hfz3_p:=a_k BKp.out 0)
  | (go_at_call 57;(with_reducible refine (c_B.calls _ _ l _ ?s1 HL.out).mono ?_);(case s1 => exact Kd.a_O HR.out HB.out);rintro e w' ⟨v,rfl,ho,hb⟩;clear hcz3_p_0 hfz3_p;have m0_:=a_a.mk (a_f (g:=gbp) (o:=.cells #[.slice (some ad) l.length c0] 26 (0,0)) BKp.out hb);have m1_:=a_a.mk (a_f (g:=gbq) (o:=.cells #[.slice none 0 0] 26 (0,0)) BKq.out hb);have m2_:=a_a.mk (a_i HB.out hb);have m3_:=a_a.mk (Kd.a_S ho HB.out.size);(try clear BKp);(try clear BKq);(try clear HB);have BKp:=m0_;have BKq:=m1_;have HB:=m2_;have HOv:=m3_;clear m0_ m1_ m2_ m3_ hb ho;obtain ⟨Av,cv,ev⟩:=Kd.a_P HOv.out;subst ev)
  | ((with_reducible refine a_w (N:=9) rfl ?_);refine a_v ?hg (N:=9) ?hd (cs:=#[.slice none 0 0]) (t:=26) ?hr ?_;(case hd => rfl);(case hg => rfl);(case hr => first|(go_simp;done)|(go_simp;rfl));intro gbn hg wbn hbox hb;have m0_:=a_a.mk (a_f (g:=gbp) (o:=.cells #[.slice (some ad) l.length c0] 26 (0,0)) BKp.out hb);have m1_:=a_a.mk (a_f (g:=gbq) (o:=.cells #[.slice none 0 0] 26 (0,0)) BKq.out hb);have m2_:=a_a.mk (Kd.a_F HOv.out hb);have m3_:=a_a.mk (a_i HB.out hb);have m4_:=a_a.mk (hbox);have m5_:=a_a.mk ((by rw [hg];exact HB.out.size : w.heap.size ≤ gbn));have m6_:=a_a.mk ((by rw [hg];exact Nat.ne_of_lt (a_o BKp.out) : gbp ≠ gbn));have m7_:=a_a.mk ((by rw [hg];exact Nat.ne_of_gt (a_o BKp.out) : gbn ≠ gbp));have m8_:=a_a.mk ((by rw [hg];exact Nat.ne_of_lt (a_o BKq.out) : gbq ≠ gbn));have m9_:=a_a.mk ((by rw [hg];exact Nat.ne_of_gt (a_o BKq.out) : gbn ≠ gbq));(try clear BKp);(try clear BKq);(try clear HOv);(try clear HB);have BKp:=m0_;have BKq:=m1_;have HOv:=m2_;have HB:=m3_;have BKn:=m4_;have GEn:=m5_;have NBp_n:=m6_;have NBn_p:=m7_;have NBq_n:=m8_;have NBn_q:=m9_;clear m0_ m1_ m2_ m3_ m4_ m5_ m6_ m7_ m8_ m9_ hb hbox hg;have hcz4_n_0 : World.cell? _ ⟨gbn,0,none⟩ = some (.slice none 0 0):=(a_m BKn.out 0).trans rfl;have hfz4_n:=a_k BKn.out 0)
  | (go_at_fn g;refine (HD.out _ gbn (.slice Av l.length cv) ?d1 GEn.out ?d2 ?d3).mono ?_;(case d1 => exact a_c HB.out GEn.out);(case d2 => exact a_L (cs:=#[.slice none 0 0]) BKn.out 0 _ rfl);(case d3 => exact Kd.c_N HOv.out BKn.out (by decide) 0 _);rintro e w' ⟨rfl,hbb,hj,hk,hq⟩;clear hcz4_n_0 hfz4_n;have KQ:=a_a.mk ((hk gbq (by have:=a_o BKq.out;simpa [World.setCell] using this) NBq_n.out (fun hm => Nat.not_lt.2 GEq.out (HM.out _ hm)) (Kd.R_ne HOv.out BKq.out (by decide))).trans (a_G BKq.out (p:=⟨gbn,0,none⟩) NBq_n.out (.slice Av l.length cv)));have hcq : World.cell? _ ⟨gbq,0,none⟩ = some (.slice none 0 0):=(a_m KQ.out 0).trans rfl;have hfq:=a_k KQ.out 0;have HBB:=a_a.mk hbb;have HJ2:=a_a.mk hj;have HK:=a_a.mk hk;have hnq:=NBq_n.out;have hnq2:=NBn_q.out;clear hbb hj hk hq))
 refine bodyPost_ret (b_j rfl _ _ gbq 26 #[.slice none 0 0] (0,0) _ rfl (a_L (cs:=#[.slice none 0 0]) KQ.out 0 _ rfl) Try.underlying26 rfl (by kernel_rfl)) rfl ?_
 refine ⟨_,rfl,Kd.c_z _ _ _ _ _,((HB.out.setCell GEn.out _).mono HBS.out |>.trans HBB.out).setCell (Nat.le_trans HBS.out GEq.out) _,HJ.out _ _ HJ2.out (fun k_ hk_ => c_m (HM.out _ hk_) GEq.out),fun k_ hk_ hm_ => ?_⟩
 refine (c_m hk_ GEq.out).trans ((HK.out k_ (by have:=HB.out.size;simp [World.setCell];omega) (Nat.ne_of_lt (Nat.lt_of_lt_of_le hk_ GEn.out)) hm_ (fun e_ => Nat.not_lt.2 (Kd.c_g HOv.out k_ e_.symm) hk_)).trans ?_)
 exact (c_m hk_ GEn.out).trans (HB.out.block k_ hk_)
set_option maxHeartbeats 2000000 in
theorem c_a.bad (g : Nat) (lb : Array Value) (k : Nat) (A0 : Option Addr) (c0 : Nat) (l : List Int) (A1 : Option Addr) (c1 : Nat) (ns : List Int) (w : World)
 (hr : Kd.C (Kd.int .u32) w A0 l.length l) (hc : l.length ≤ c0) (hr1 : Kd.C (Kd.int .i64) w A1 ns.length ns) (hc1 : ns.length ≤ c1) (e1 : Int) (hec : a_x.f k l = some e1) (he1 : e1 ≠ 0) :
 Calls Try.prog 45 #[.agg #[.slice A0 l.length c0],.func (.func g) #[] lb,.slice A1 ns.length c1] w fun e w' => e = .returned (.tuple #[.agg #[.slice none 0 0],.int .i64 e1]) ∧ Below w.heap.size w w':=by
 have HR:=a_a.mk hr
 have HC:=a_a.mk hc
 have HR1:=a_a.mk hr1
 have HC1:=a_a.mk hc1
 have HE:=a_a.mk hec
 clear hr hc hr1 hc1 hec
 have HB:=a_a.mk (Below.refl w.heap.size w)
 have hb1 : (e1 != 0) = true:=bne_iff_ne.mpr he1
 clear he1
 go_enter Try.func45,Try.ntmps45
 go_wp2_with (first
  | ((with_reducible refine a_w (N:=3) rfl ?_);refine a_v ?hg (N:=3) ?hd (cs:=#[.slice A0 l.length c0]) (t:=26) ?hr ?_;(case hd => rfl);(case hg => rfl);(case hr => first|(go_simp;done)|(go_simp;rfl));intro gbp hg wbp hbox hb;have m0_:=a_a.mk (a_i HB.out hb);have m1_:=a_a.mk (hbox);have m2_:=a_a.mk ((by rw [hg];exact HB.out.size : w.heap.size ≤ gbp));(try clear HB);have HB:=m0_;have BKp:=m1_;have GEp:=m2_;clear m0_ m1_ m2_ hb hbox hg)
  | ((with_reducible refine a_w (N:=6) rfl ?_);refine a_v ?hg (N:=6) ?hd (cs:=#[.slice none 0 0]) (t:=26) ?hr ?_;(case hd => rfl);(case hg => rfl);(case hr => first|(go_simp;done)|(go_simp;rfl));intro gbq hg wbq hbox hb;have m0_:=a_a.mk (a_f (g:=gbp) (o:=.cells #[.slice A0 l.length c0] 26 (0,0)) BKp.out hb);have m1_:=a_a.mk (a_i HB.out hb);have m2_:=a_a.mk (hbox);have m3_:=a_a.mk ((by rw [hg];exact HB.out.size : w.heap.size ≤ gbq));have m4_:=a_a.mk ((by rw [hg];exact Nat.ne_of_lt (a_o BKp.out) : gbp ≠ gbq));have m5_:=a_a.mk ((by rw [hg];exact Nat.ne_of_gt (a_o BKp.out) : gbq ≠ gbp));(try clear BKp);(try clear HB);have BKp:=m0_;have HB:=m1_;have BKq:=m2_;have GEq:=m3_;have NBp_q:=m4_;have NBq_p:=m5_;clear m0_ m1_ m2_ m3_ m4_ m5_ hb hbox hg;have hcz1_p_0 : World.cell? _ ⟨gbp,0,none⟩ = some (.slice A0 l.length c0):=(a_m BKp.out 0).trans rfl;have hfz1_p:=a_k BKp.out 0)
  | (go_at_call 17;(with_reducible refine (a_x.calls k _ _ l e1 _ ?s1 HC.out HE.out).mono ?_);(case s1 => exact Kd.a_O HR.out HB.out);rintro e w' ⟨rfl,hb⟩;clear hcz1_p_0 hfz1_p;have m0_:=a_a.mk (a_f (g:=gbp) (o:=.cells #[.slice A0 l.length c0] 26 (0,0)) BKp.out hb);have m1_:=a_a.mk (a_f (g:=gbq) (o:=.cells #[.slice none 0 0] 26 (0,0)) BKq.out hb);have m2_:=a_a.mk (a_i HB.out hb);(try clear BKp);(try clear BKq);(try clear HB);have BKp:=m0_;have BKq:=m1_;have HB:=m2_;clear m0_ m1_ m2_ hb;have hcz2_p_0 : World.cell? _ ⟨gbp,0,none⟩ = some (.slice A0 l.length c0):=(a_m BKp.out 0).trans rfl;have hfz2_p:=a_k BKp.out 0;have hcz2_q_0 : World.cell? _ ⟨gbq,0,none⟩ = some (.slice none 0 0):=(a_m BKq.out 0).trans rfl;have hfz2_q:=a_k BKq.out 0))
 refine bodyPost_ret (b_j rfl _ _ gbq 26 #[.slice none 0 0] (0,0) _ rfl (a_L (cs:=#[.slice none 0 0]) BKq.out 0 _ rfl) Try.underlying26 rfl (by kernel_rfl)) rfl ?_
 exact ⟨rfl,HB.out.setCell GEq.out _⟩
set_option maxHeartbeats 2000000 in
theorem c_a.lacks (g : Nat) (lb : Array Value) (k : Nat) (A0 : Option Addr) (c0 : Nat) (l : List Int) (A1 : Option Addr) (c1 : Nat) (ns : List Int) (w : World)
 (hr : Kd.C (Kd.int .u32) w A0 l.length l) (hc : l.length ≤ c0) (hr1 : Kd.C (Kd.int .i64) w A1 ns.length ns) (hc1 : ns.length ≤ c1) (hec : a_x.f k l = some 0) (hp : b_f.f l ns = some false) :
 Calls Try.prog 45 #[.agg #[.slice A0 l.length c0],.func (.func g) #[] lb,.slice A1 ns.length c1] w fun e w' => e = .returned (.tuple #[.agg #[.slice none 0 0],.int .i64 4]) ∧ Below w.heap.size w w':=by
 have HR:=a_a.mk hr
 have HC:=a_a.mk hc
 have HR1:=a_a.mk hr1
 have HC1:=a_a.mk hc1
 have HE:=a_a.mk hec
 clear hr hc hr1 hc1 hec
 have HB:=a_a.mk (Below.refl w.heap.size w)
 have HP:=a_a.mk hp
 clear hp
 go_enter Try.func45,Try.ntmps45
 go_wp2_with (first
  | ((with_reducible refine a_w (N:=3) rfl ?_);refine a_v ?hg (N:=3) ?hd (cs:=#[.slice A0 l.length c0]) (t:=26) ?hr ?_;(case hd => rfl);(case hg => rfl);(case hr => first|(go_simp;done)|(go_simp;rfl));intro gbp hg wbp hbox hb;have m0_:=a_a.mk (a_i HB.out hb);have m1_:=a_a.mk (hbox);have m2_:=a_a.mk ((by rw [hg];exact HB.out.size : w.heap.size ≤ gbp));(try clear HB);have HB:=m0_;have BKp:=m1_;have GEp:=m2_;clear m0_ m1_ m2_ hb hbox hg)
  | ((with_reducible refine a_w (N:=6) rfl ?_);refine a_v ?hg (N:=6) ?hd (cs:=#[.slice none 0 0]) (t:=26) ?hr ?_;(case hd => rfl);(case hg => rfl);(case hr => first|(go_simp;done)|(go_simp;rfl));intro gbq hg wbq hbox hb;have m0_:=a_a.mk (a_f (g:=gbp) (o:=.cells #[.slice A0 l.length c0] 26 (0,0)) BKp.out hb);have m1_:=a_a.mk (a_i HB.out hb);have m2_:=a_a.mk (hbox);have m3_:=a_a.mk ((by rw [hg];exact HB.out.size : w.heap.size ≤ gbq));have m4_:=a_a.mk ((by rw [hg];exact Nat.ne_of_lt (a_o BKp.out) : gbp ≠ gbq));have m5_:=a_a.mk ((by rw [hg];exact Nat.ne_of_gt (a_o BKp.out) : gbq ≠ gbp));(try clear BKp);(try clear HB);have BKp:=m0_;have HB:=m1_;have BKq:=m2_;have GEq:=m3_;have NBp_q:=m4_;have NBq_p:=m5_;clear m0_ m1_ m2_ m3_ m4_ m5_ hb hbox hg;have hcz1_p_0 : World.cell? _ ⟨gbp,0,none⟩ = some (.slice A0 l.length c0):=(a_m BKp.out 0).trans rfl;have hfz1_p:=a_k BKp.out 0)
  | (go_at_call 17;(with_reducible refine (a_x.calls k _ _ l 0 _ ?s1 HC.out HE.out).mono ?_);(case s1 => exact Kd.a_O HR.out HB.out);rintro e w' ⟨rfl,hb⟩;clear hcz1_p_0 hfz1_p;have m0_:=a_a.mk (a_f (g:=gbp) (o:=.cells #[.slice A0 l.length c0] 26 (0,0)) BKp.out hb);have m1_:=a_a.mk (a_f (g:=gbq) (o:=.cells #[.slice none 0 0] 26 (0,0)) BKq.out hb);have m2_:=a_a.mk (a_i HB.out hb);(try clear BKp);(try clear BKq);(try clear HB);have BKp:=m0_;have BKq:=m1_;have HB:=m2_;clear m0_ m1_ m2_ hb;have hcz2_p_0 : World.cell? _ ⟨gbp,0,none⟩ = some (.slice A0 l.length c0):=(a_m BKp.out 0).trans rfl;have hfz2_p:=a_k BKp.out 0;have hcz2_q_0 : World.cell? _ ⟨gbq,0,none⟩ = some (.slice none 0 0):=(a_m BKq.out 0).trans rfl;have hfz2_q:=a_k BKq.out 0)
  | (go_at_call 44;(with_reducible refine (b_f.calls _ _ l _ _ ns false _ ?s1 HC.out ?s2 HC1.out HP.out).mono ?_);(case s1 => exact Kd.a_O HR.out HB.out);(case s2 => exact Kd.a_O HR1.out HB.out);rintro e w' ⟨rfl,hb⟩;clear hcz2_p_0 hcz2_q_0 hfz2_p hfz2_q;have m0_:=a_a.mk (a_f (g:=gbp) (o:=.cells #[.slice A0 l.length c0] 26 (0,0)) BKp.out hb);have m1_:=a_a.mk (a_f (g:=gbq) (o:=.cells #[.slice none 0 0] 26 (0,0)) BKq.out hb);have m2_:=a_a.mk (a_i HB.out hb);(try clear BKp);(try clear BKq);(try clear HB);have BKp:=m0_;have BKq:=m1_;have HB:=m2_;clear m0_ m1_ m2_ hb;have hcz3_p_0 : World.cell? _ ⟨gbp,0,none⟩ = some (.slice A0 l.length c0):=(a_m BKp.out 0).trans rfl;have hfz3_p:=a_k BKp.out 0;have hcz3_q_0 : World.cell? _ ⟨gbq,0,none⟩ = some (.slice none 0 0):=(a_m BKq.out 0).trans rfl;have hfz3_q:=a_k BKq.out 0))
 refine bodyPost_ret (b_j rfl _ _ gbq 26 #[.slice none 0 0] (0,0) _ rfl (a_L (cs:=#[.slice none 0 0]) BKq.out 0 _ rfl) Try.underlying26 rfl (by kernel_rfl)) rfl ?_
 exact ⟨rfl,HB.out.setCell GEq.out _⟩
end Go.Proofs.Ytkhbffjfclepfaa.Q
end
section
namespace Go.Proofs.Ytkhbffjfclepfaa.Q
open Go.RowKit Go.Proofs.YtkhbffjfclepfaaW.PrintWords Go.Proofs.YtkhbffjfclepfaaW.PrintLast Go.Proofs.YtkhbffjfclepfaaW.PrintMore
set_option linter.unusedVariables false
set_option linter.unusedSimpArgs false
def b_d.f (a0 : Int) (a1 : Int) : Option (Bool):=some ((Go.bits .andNot .u32 (Go.bits .and .u32 a0 255) a1) == 0)
set_option maxHeartbeats 8000000 in
set_option maxRecDepth 100000 in
theorem b_d.calls (a0 : Int) (a1 : Int) (r : Bool) (w : World) (h : b_d.f a0 a1 = some r) :
 Calls Try.prog 47 #[.int .u32 a0,.int .u32 a1] w fun e w' => e = .returned (.bool r) ∧ a_Y w w':=by
 have H : (some ((Go.bits .andNot .u32 (Go.bits .and .u32 a0 255) a1) == 0)) = some r:=h
 clear h
 obtain rfl:=Option.some.inj H
 go_enter Try.func47,Try.ntmps47
 go_wp2
 go_ret
 exact ⟨by first|rfl|(simp;done)|(simp [*];done),by repeat (first|exact a_Y.refl _|apply a_Y.step)⟩
end Go.Proofs.Ytkhbffjfclepfaa.Q
end
