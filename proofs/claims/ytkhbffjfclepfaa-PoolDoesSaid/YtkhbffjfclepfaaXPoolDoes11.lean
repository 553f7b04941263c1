/- Part 11 of 13 of what the row of PoolDoes stands on: contracts over the given program's functions, the plain law, the row; no condition beyond those that each theorem states. -/
import Derived.Test.YtkhbffjfclepfaaXPoolDoes10
/- Function 4, mainsheet_mainsheetlaw08_PoolDoes: contracts over the given program's functions, one a function; no condition beyond those that each theorem states. Written by this session's program over the kit's printer, and by hand. -/
namespace Go.Proofs.Ytkhbffjfclepfaa.Q
open Go.RowKit Go.Proofs.YtkhbffjfclepfaaW.PrintWords Go.Proofs.YtkhbffjfclepfaaW.PrintLast Go.Proofs.YtkhbffjfclepfaaW.PrintMore
attribute [local go_sem] max2_int min2_int max_two min_two max_three min_three max_four min_four
set_option linter.unusedVariables false
set_option linter.unusedSimpArgs false

/-! ### mainsheetlaw08_PoolDoes: function 4 -/
mutual
def mainsheetlaw08_PoolDoes.l0 : Nat → List (S36) → Int → Int → List Int → Option (Bool)
  | 0, _, _, _, _ => none
  | k + 1, x20, x21, x22, x267000 => if x22 < x21 then (if 0 ≤ x22 then (if x22 < (x20.length : Int) then (if x22 = 30 then (some true) else ((mainsheetlaw08_short.f x267000).bind fun t269 => ((mainsheetlaw08_Op_run.f k ((rd_T36 x20 x22).f0) ((rd_T36 x20 x22).f1) ((rd_T36 x20 x22).f2) ((rd_T36 x20 x22).f3) ((rd_T36 x20 x22).f4) x267000).bind fun bt273 => ((mainsheetlaw08_short.f t269).bind fun t279 => ((mainsheetlaw08_Op_wants.f k ((rd_T36 x20 x22).f0) ((rd_T36 x20 x22).f1) ((rd_T36 x20 x22).f2) ((rd_T36 x20 x22).f3) ((rd_T36 x20 x22).f4) t279).bind fun bt282 => (if bt273.2.2 = bt282.2.2 then (if bt273.2.1 = bt282.2.1 then ((mainsheetref08_Same.f k bt273.1 bt282.1).bind fun t288 => (if t288 = true then ((mainsheetref08_Same.f k x267000 t269).bind fun t289 => (mainsheetlaw08_PoolDoes.j1 k bt273.2.2 x20 x21 x22 (!t289) x267000 t269 bt273.1 bt282.1)) else (mainsheetlaw08_PoolDoes.j1 k bt273.2.2 x20 x21 x22 true x267000 t269 bt273.1 bt282.1))) else (mainsheetlaw08_PoolDoes.j1 k bt273.2.2 x20 x21 x22 true x267000 t269 bt273.1 bt282.1)) else (mainsheetlaw08_PoolDoes.j1 k bt273.2.2 x20 x21 x22 true x267000 t269 bt273.1 bt282.1))))))) else (none)) else (none)) else (some true)
def mainsheetlaw08_PoolDoes.j1 : Nat → Int → List (S36) → Int → Int → Bool → List Int → List Int → List Int → List Int → Option (Bool)
  | 0, _, _, _, _, _, _, _, _, _ => none
  | k + 1, x11, x20, x21, x22, x65, x267000, x273000, x279000, x288000 => if x65 = true then (some false) else ((mainsheetref08_Copy.f x288000).bind fun t290 => (mainsheetlaw08_PoolDoes.l1 k x11 x20 x21 x22 (x279000.length : Int) 0 x267000 x273000 x279000 t290))
def mainsheetlaw08_PoolDoes.l1 : Nat → Int → List (S36) → Int → Int → Int → Int → List Int → List Int → List Int → List Int → Option (Bool)
  | 0, _, _, _, _, _, _, _, _, _, _ => none
  | k + 1, x11, x20, x21, x22, x70, x71, x267000, x273000, x279000, x288000 => if x71 < x70 then (if 0 ≤ x71 then (if x71 < (x279000.length : Int) then (mainsheetlaw08_PoolDoes.l1 k x11 x20 x21 x22 x70 (wrap64 (x71 + 1)) x267000 x273000 (x279000.set (x71 : Int).toNat 99) x288000) else (none)) else (none)) else ((mainsheetref08_Same.f k x267000 x273000).bind fun t294 => (if t294 = true then (if x11 = 0 then (mainsheetlaw08_PoolDoes.l0 k x20 x21 (wrap64 (x22 + 1)) x288000) else (mainsheetlaw08_PoolDoes.l0 k x20 x21 (wrap64 (x22 + 1)) x267000)) else (some false)))
end
def mainsheetlaw08_PoolDoes.f (k : Nat) (l0_0 : List Int) (l1 : List (S36)) : Option (Bool) := (mainsheetlaw08_wakes.f k).bind fun t262 => (if t262 = true then ((mainsheetlaw08_short.f l0_0).bind fun t263 => (mainsheetlaw08_PoolDoes.l0 k l1 (l1.length : Int) 0 t263)) else (some false))
theorem mainsheetlaw08_PoolDoes.mono_l : ∀ k, (∀ y0 y1 y2 y3, LeO (mainsheetlaw08_PoolDoes.l0 k y0 y1 y2 y3) (mainsheetlaw08_PoolDoes.l0 (k + 1) y0 y1 y2 y3)) ∧ (∀ y0 y1 y2 y3 y4 y5 y6 y7 y8, LeO (mainsheetlaw08_PoolDoes.j1 k y0 y1 y2 y3 y4 y5 y6 y7 y8) (mainsheetlaw08_PoolDoes.j1 (k + 1) y0 y1 y2 y3 y4 y5 y6 y7 y8)) ∧ (∀ y0 y1 y2 y3 y4 y5 y6 y7 y8 y9, LeO (mainsheetlaw08_PoolDoes.l1 k y0 y1 y2 y3 y4 y5 y6 y7 y8 y9) (mainsheetlaw08_PoolDoes.l1 (k + 1) y0 y1 y2 y3 y4 y5 y6 y7 y8 y9))
  | 0 => ⟨fun _ _ _ _ r h => by simp [mainsheetlaw08_PoolDoes.l0] at h, fun _ _ _ _ _ _ _ _ _ r h => by simp [mainsheetlaw08_PoolDoes.j1] at h, fun _ _ _ _ _ _ _ _ _ _ r h => by simp [mainsheetlaw08_PoolDoes.l1] at h⟩
  | k + 1 => by
    obtain ⟨ih0, ih1, ih2⟩ := mainsheetlaw08_PoolDoes.mono_l k
    refine ⟨?_, ?_, ?_⟩
    · intro y0 y1 y2 y3
      unfold mainsheetlaw08_PoolDoes.l0
      repeat' first
      | (with_reducible exact ih0 _ _ _ _)
      | (with_reducible exact ih1 _ _ _ _ _ _ _ _ _)
      | (with_reducible exact ih2 _ _ _ _ _ _ _ _ _ _)
      | (with_reducible exact mainsheetlaw08_Op_run.mono _ _ _ _ _ _ _)
      | (with_reducible exact mainsheetlaw08_Op_wants.mono _ _ _ _ _ _ _)
      | (with_reducible exact mainsheetlaw08_wakes.mono _)
      | (with_reducible exact mainsheetref08_Same.mono _ _ _)
      | (with_reducible exact LeO.refl _)
      | (with_reducible exact LeO.none _)
      | (with_reducible refine LeO.ite ?_ ?_)
      | (with_reducible refine LeO.bind ?_ (fun _ => ?_))
      | exact ih0 _ _ _ _
      | exact ih1 _ _ _ _ _ _ _ _ _
      | exact ih2 _ _ _ _ _ _ _ _ _ _
      | exact mainsheetlaw08_Op_run.mono _ _ _ _ _ _ _
      | exact mainsheetlaw08_Op_wants.mono _ _ _ _ _ _ _
      | exact mainsheetlaw08_wakes.mono _
      | exact mainsheetref08_Same.mono _ _ _
      | exact LeO.none _
      | refine LeO.ite ?_ ?_
      | refine LeO.bind ?_ (fun _ => ?_)
    · intro y0 y1 y2 y3 y4 y5 y6 y7 y8
      unfold mainsheetlaw08_PoolDoes.j1
      repeat' first
      | (with_reducible exact ih0 _ _ _ _)
      | (with_reducible exact ih1 _ _ _ _ _ _ _ _ _)
      | (with_reducible exact ih2 _ _ _ _ _ _ _ _ _ _)
      | (with_reducible exact mainsheetlaw08_Op_run.mono _ _ _ _ _ _ _)
      | (with_reducible exact mainsheetlaw08_Op_wants.mono _ _ _ _ _ _ _)
      | (with_reducible exact mainsheetlaw08_wakes.mono _)
      | (with_reducible exact mainsheetref08_Same.mono _ _ _)
      | (with_reducible exact LeO.refl _)
      | (with_reducible exact LeO.none _)
      | (with_reducible refine LeO.ite ?_ ?_)
      | (with_reducible refine LeO.bind ?_ (fun _ => ?_))
      | exact ih0 _ _ _ _
      | exact ih1 _ _ _ _ _ _ _ _ _
      | exact ih2 _ _ _ _ _ _ _ _ _ _
      | exact mainsheetlaw08_Op_run.mono _ _ _ _ _ _ _
      | exact mainsheetlaw08_Op_wants.mono _ _ _ _ _ _ _
      | exact mainsheetlaw08_wakes.mono _
      | exact mainsheetref08_Same.mono _ _ _
      | exact LeO.none _
      | refine LeO.ite ?_ ?_
      | refine LeO.bind ?_ (fun _ => ?_)
    · intro y0 y1 y2 y3 y4 y5 y6 y7 y8 y9
      unfold mainsheetlaw08_PoolDoes.l1
      repeat' first
      | (with_reducible exact ih0 _ _ _ _)
      | (with_reducible exact ih1 _ _ _ _ _ _ _ _ _)
      | (with_reducible exact ih2 _ _ _ _ _ _ _ _ _ _)
      | (with_reducible exact mainsheetlaw08_Op_run.mono _ _ _ _ _ _ _)
      | (with_reducible exact mainsheetlaw08_Op_wants.mono _ _ _ _ _ _ _)
      | (with_reducible exact mainsheetlaw08_wakes.mono _)
      | (with_reducible exact mainsheetref08_Same.mono _ _ _)
      | (with_reducible exact LeO.refl _)
      | (with_reducible exact LeO.none _)
      | (with_reducible refine LeO.ite ?_ ?_)
      | (with_reducible refine LeO.bind ?_ (fun _ => ?_))
      | exact ih0 _ _ _ _
      | exact ih1 _ _ _ _ _ _ _ _ _
      | exact ih2 _ _ _ _ _ _ _ _ _ _
      | exact mainsheetlaw08_Op_run.mono _ _ _ _ _ _ _
      | exact mainsheetlaw08_Op_wants.mono _ _ _ _ _ _ _
      | exact mainsheetlaw08_wakes.mono _
      | exact mainsheetref08_Same.mono _ _ _
      | exact LeO.none _
      | refine LeO.ite ?_ ?_
      | refine LeO.bind ?_ (fun _ => ?_)
theorem mainsheetlaw08_PoolDoes.mono : ∀ a0 a1 k, LeO (mainsheetlaw08_PoolDoes.f k a0 a1) (mainsheetlaw08_PoolDoes.f (k + 1) a0 a1) := by
  intro a0 a1 k
  obtain ⟨ih0, ih1, ih2⟩ := mainsheetlaw08_PoolDoes.mono_l k
  unfold mainsheetlaw08_PoolDoes.f
  repeat' first
      | (with_reducible exact ih0 _ _ _ _)
      | (with_reducible exact ih1 _ _ _ _ _ _ _ _ _)
      | (with_reducible exact ih2 _ _ _ _ _ _ _ _ _ _)
      | (with_reducible exact mainsheetlaw08_Op_run.mono _ _ _ _ _ _ _)
      | (with_reducible exact mainsheetlaw08_Op_wants.mono _ _ _ _ _ _ _)
      | (with_reducible exact mainsheetlaw08_wakes.mono _)
      | (with_reducible exact mainsheetref08_Same.mono _ _ _)
      | (with_reducible exact LeO.refl _)
      | (with_reducible exact LeO.none _)
      | (with_reducible refine LeO.ite ?_ ?_)
      | (with_reducible refine LeO.bind ?_ (fun _ => ?_))
      | exact ih0 _ _ _ _
      | exact ih1 _ _ _ _ _ _ _ _ _
      | exact ih2 _ _ _ _ _ _ _ _ _ _
      | exact mainsheetlaw08_Op_run.mono _ _ _ _ _ _ _
      | exact mainsheetlaw08_Op_wants.mono _ _ _ _ _ _ _
      | exact mainsheetlaw08_wakes.mono _
      | exact mainsheetref08_Same.mono _ _ _
      | exact LeO.none _
      | refine LeO.ite ?_ ?_
      | refine LeO.bind ?_ (fun _ => ?_)
def mainsheetlaw08_PoolDoes.T10 : Bool × List (List Nat × List Nat) := (true, [([], []), ([], []), ([1], [1]), ([0, 2, 2], [0, 2]), ([3], [3]), ([4], [4]), ([4], [4]), ([4], [4]), ([], []), ([8, 5, 3, 0, 1, 2, 3, 4, 5, 8], [5, 8]), ([6, 9, 0, 1, 2, 3, 4, 5, 6, 8, 9], [6]), ([7, 10, 0, 1, 2, 3, 4, 5, 6, 7, 8, 9, 10], [7])])
def mainsheetlaw08_PoolDoes.B10 : List Nat := [0, 0, 2, 7, 15, 31, 31, 31, 0, 319, 895, 2047]
theorem mainsheetlaw08_PoolDoes.tab10 : rtab .any (opsOf Try.f4 10) = mainsheetlaw08_PoolDoes.T10 := by kernel_rfl
theorem mainsheetlaw08_PoolDoes.bits10 : waitsOk mainsheetlaw08_PoolDoes.T10.2 mainsheetlaw08_PoolDoes.B10 = true := by kernel_rfl
set_option maxHeartbeats 8000000 in
set_option maxRecDepth 100000 in
theorem mainsheetlaw08_PoolDoes.calls (k : Nat) (A0_0 : Option Addr) (c0_0 : Nat) (l0_0 : List Int) (A1 : Option Addr) (c1 : Nat) (l1 : List (S36)) (r : Bool) (w : World) (hr0_0 : Kd.C (Kd.int .u32) w A0_0 l0_0.length l0_0) (hc0_0 : l0_0.length ≤ c0_0) (hr1 : Kd.C k36 w A1 l1.length l1) (hc1 : l1.length ≤ c1) (h : mainsheetlaw08_PoolDoes.f k l0_0 l1 = some r) :
    Calls Try.prog 4 #[.agg #[.slice A0_0 l0_0.length c0_0], .slice A1 l1.length c1] w fun e w' => e = .returned (.bool r) ∧ Below w.heap.size w w' := by
  have hu26 := Try.underlying26
  have hu36 := Try.underlying36
  have HR0_0 := Aside0.mk hr0_0
  have HC0_0 := Aside0.mk hc0_0
  clear hr0_0 hc0_0
  have HR1 := Aside0.mk hr1
  have HC1 := Aside0.mk hc1
  clear hr1 hc1
  have HB := Aside0.mk (Below.refl w.heap.size w)
  have H : ((mainsheetlaw08_wakes.f k).bind fun t262 => (if t262 = true then ((mainsheetlaw08_short.f l0_0).bind fun t263 => (mainsheetlaw08_PoolDoes.l0 k l1 (l1.length : Int) 0 t263)) else (some false))) = some r := h
  clear h
  replace H := Option.bind_eq_some_iff.mp H
  obtain ⟨t262, A30, H⟩ := H
  replace H : (if t262 = true then ((mainsheetlaw08_short.f l0_0).bind fun t263 => (mainsheetlaw08_PoolDoes.l0 k l1 (l1.length : Int) 0 t263)) else (some false)) = some r := H
  have A3 := Aside0.mk A30
  clear A30
  by_cases c4 : t262 = true
  · subst c4
    have H1 : ((mainsheetlaw08_short.f l0_0).bind fun t263 => (mainsheetlaw08_PoolDoes.l0 k l1 (l1.length : Int) 0 t263)) = some r := by rw [if_pos rfl] at H; exact H
    clear H
    have H := H1
    clear H1
    replace H := Option.bind_eq_some_iff.mp H
    obtain ⟨t263, A50, H⟩ := H
    replace H : (mainsheetlaw08_PoolDoes.l0 k l1 (l1.length : Int) 0 t263) = some r := H
    have A5 := Aside0.mk A50
    clear A50
    have H' := Aside0.mk H
    clear H
    go_enter Try.func4, Try.ntmps4
    go_wp2_with (first | ((with_reducible refine gate_dst (N := 2) rfl ?_); refine box_event ?hg (N := 2) ?hd (cs := #[.slice A0_0 l0_0.length c0_0]) (t := 26) ?hr ?_; (case hd => rfl); (case hg => rfl); (case hr => first | (go_simp; done) | (go_simp; rfl)); intro gb261 hg w6 hbox hb; have n0_ := Aside0.mk (below_step (by repeat (first | (with_reducible first | exact HB.out | apply below_alloc | apply pw_below_drewN | apply below_drew1) | exact HB.out)) hb); have n1_ := Aside0.mk (hbox); have n2_ := Aside0.mk ((by rw [hg]; exact (below_size (by repeat (first | (with_reducible first | exact HB.out | apply below_alloc | apply pw_below_drewN | apply below_drew1) | exact HB.out))) : w.heap.size ≤ gb261)); have n3_ := Aside0.mk ((by rw [hg]; exact (below_size (by repeat (first | (with_reducible first | exact HB.out | apply below_alloc | apply pw_below_drewN | apply below_drew1) | exact HB.out))) : w.heap.size ≤ gb261)); clear HB; have HB := n0_; have BK261 := n1_; have GW261 := n2_; have GE261 := n3_; clear n0_ n1_ n2_ n3_; clear hb hbox hg) | ((with_reducible refine gate_callee (f := 9) rfl ?_); refine goesL_ (some 16) rfl rfl Try.func9 (by kernel_rfl) rfl #[] rfl (by (try simp only [List.map_toArray, List.map_cons, List.map_nil]); first | done | rfl | (simp only [List.length_drop, List.length_take]; rfl)) ?_; (with_reducible refine (mainsheetlaw08_wakes.calls k  true _ A3.out).mono ?_); rintro e w7 ⟨rfl, hb⟩; refine ⟨_, rfl, ?_⟩; have n0_ := Aside0.mk (blk_below (g := gb261) (o := .cells #[.slice A0_0 l0_0.length c0_0] 26 (0, 0)) (by (with_reducible repeat (first | refine blk_drewN ?_ _ | refine blk_drew ?_ | refine blk_alloc ?_ _)); exact BK261.out) hb); have n1_ := Aside0.mk (below_step (by repeat (first | (with_reducible first | exact HB.out | apply below_alloc | apply pw_below_drewN | apply below_drew1 | refine below_set ?_ GE261.out) | exact HB.out)) hb); clear BK261; clear HB; have BK261 := n0_; have HB := n1_; clear n0_ n1_; (try clear hb); (try clear hb2); (try clear hk); (try clear hi); have hcz8_0 : w7.cell? ⟨gb261, 0, none⟩ = some (.slice A0_0 l0_0.length c0_0) := (blk_cell BK261.out 0).trans rfl; have hfz8_0 := blk_frozen BK261.out 0) | ((with_reducible refine gate_callee (f := 11) rfl ?_); refine goesL_ (some 19) rfl rfl Try.func11 (by kernel_rfl) rfl #[.agg #[.slice A0_0 l0_0.length c0_0]] rfl (by (try simp only [List.map_toArray, List.map_cons, List.map_nil]); first | done | rfl | (simp only [List.length_drop, List.length_take]; rfl)) ?_; (with_reducible refine (mainsheetlaw08_short.calls _ _ l0_0 t263 _ ?side1 ?side2 A5.out).mono ?_); (case side1 => repeat (first | exact (Kd.C_below HR0_0.out HB.out) | (with_reducible refine Kd.C_alloc ?_ _) | (with_reducible refine Kd.C_drewN ?_ _) | (with_reducible refine Kd.C_drew ?_))); (case side2 => exact HC0_0.out); rintro e w9 ⟨v264, rfl, ho0, hb⟩; refine ⟨_, rfl, ?_⟩; have n0_ := Aside0.mk (Kd.R_lower ho0 (below_size (by repeat (first | (with_reducible first | exact HB.out | apply below_alloc | apply pw_below_drewN | apply below_drew1 | refine below_set ?_ GE261.out) | exact HB.out)))); have n1_ := Aside0.mk (blk_below (g := gb261) (o := .cells #[.slice A0_0 l0_0.length c0_0] 26 (0, 0)) (by (with_reducible repeat (first | refine blk_drewN ?_ _ | refine blk_drew ?_ | refine blk_alloc ?_ _)); exact BK261.out) hb); have n2_ := Aside0.mk (below_step (by repeat (first | (with_reducible first | exact HB.out | apply below_alloc | apply pw_below_drewN | apply below_drew1 | refine below_set ?_ GE261.out) | exact HB.out)) hb); clear BK261; clear HB; have HO265 := n0_; have BK261 := n1_; have HB := n2_; clear n0_ n1_ n2_; (try clear hb); (try clear hb2); (try clear hk); (try clear hi); (try clear ho0)) | ((with_reducible refine gate_dst (N := 5) rfl ?_); refine box_event ?hg (N := 5) ?hd (cs := #[.slice none 0 0]) (t := 26) ?hr ?_; (case hd => rfl); (case hg => rfl); (case hr => first | (go_simp; done) | (go_simp; rfl)); intro gb266 hg w10 hbox hb; have n0_ := Aside0.mk (Kd.R_below (by (with_reducible repeat (first | apply Kd.R_alloc | apply Kd.R_drewN | apply Kd.R_drew)); exact HO265.out) hb); have n1_ := Aside0.mk (blk_below (g := gb261) (o := .cells #[.slice A0_0 l0_0.length c0_0] 26 (0, 0)) (by (with_reducible repeat (first | refine blk_drewN ?_ _ | refine blk_drew ?_ | refine blk_alloc ?_ _)); exact BK261.out) hb); have n2_ := Aside0.mk (below_step (by repeat (first | (with_reducible first | exact HB.out | apply below_alloc | apply pw_below_drewN | apply below_drew1 | refine below_set ?_ GE261.out) | exact HB.out)) hb); have n3_ := Aside0.mk (hbox); have n4_ := Aside0.mk ((by rw [hg]; exact (below_size (by repeat (first | (with_reducible first | exact HB.out | apply below_alloc | apply pw_below_drewN | apply below_drew1 | refine below_set ?_ GE261.out) | exact HB.out))) : w.heap.size ≤ gb266)); have n5_ := Aside0.mk ((by rw [hg]; exact (below_size (by repeat (first | (with_reducible first | exact HB.out | apply below_alloc | apply pw_below_drewN | apply below_drew1 | refine below_set ?_ GE261.out) | exact HB.out))) : w.heap.size ≤ gb266)); have n6_ := Aside0.mk ((by rw [hg]; exact Nat.ne_of_lt (blk_lt (g := gb261) (o := .cells #[.slice A0_0 l0_0.length c0_0] 26 (0, 0)) (by (with_reducible repeat (first | refine blk_drewN ?_ _ | refine blk_drew ?_ | refine blk_alloc ?_ _)); exact BK261.out)) : gb261 ≠ gb266)); have n7_ := Aside0.mk ((by rw [hg]; exact Nat.ne_of_gt (blk_lt (g := gb261) (o := .cells #[.slice A0_0 l0_0.length c0_0] 26 (0, 0)) (by (with_reducible repeat (first | refine blk_drewN ?_ _ | refine blk_drew ?_ | refine blk_alloc ?_ _)); exact BK261.out)) : gb266 ≠ gb261)); clear HO265; clear BK261; clear HB; have HO265 := n0_; have BK261 := n1_; have HB := n2_; have BK266 := n3_; have GW266 := n4_; have GE266 := n5_; have NB261_266 := n6_; have NB266_261 := n7_; clear n0_ n1_ n2_ n3_ n4_ n5_ n6_ n7_; clear hb hbox hg; obtain ⟨Ao11, co11, eo11⟩ := Kd.R_slice HO265.out; subst eo11; have hnb12 := NB266_261.out; have hnc12 := NB261_266.out; have hcz13_0 : w10.cell? ⟨gb266, 0, none⟩ = some (.slice none 0 0) := (blk_cell BK266.out 0).trans rfl; have hfz13_0 := blk_frozen BK266.out 0))
    go_loopg [22] k (fun kq v22 w' => ∃ (x22_1 : Int) (x267000_1 : List Int) (u267000 : Value), v22 = .int .i64 x22_1 ∧ Aside0 (mainsheetlaw08_PoolDoes.l0 kq l1 (l1.length : Int) x22_1 x267000_1 = some r) ∧ Aside0 (kq ≤ k) ∧ Aside0 (Kd.R (Kd.int .u32) 31 w' w.heap.size (fun _ => True) u267000 x267000_1) ∧ Aside0 (w'.heap[gb261]? = some (.cells #[(.slice A0_0 l0_0.length c0_0)] 26 (0, 0))) ∧ Aside0 (w'.heap[gb266]? = some (.cells #[u267000] 26 (0, 0))) ∧ Aside0 (Below w.heap.size w w'))
    case atStart => exact ⟨(0), (t263), (.slice Ao11 t263.length co11), (by first | rfl | (simp; done) | (simp [*]; done)), H', ⟨Nat.le_refl _⟩, ⟨by (with_reducible repeat (first | apply Kd.R_alloc | apply Kd.R_drewN | apply Kd.R_drew)); exact Kd.R_mono (Kd.R_far (p := ⟨gb266, 0, none⟩) (Kd.R_types HO265.out BK266.out (by decide)) (fun _ hk => hk.2) (.slice Ao11 t263.length co11)) (fun _ hk => trivial)⟩, ⟨by (with_reducible repeat (first | refine blk_drewN ?_ _ | refine blk_drew ?_ | refine blk_alloc ?_ _)); refine blk_far ?_ NB261_266.out _; (with_reducible repeat (first | refine blk_drewN ?_ _ | refine blk_drew ?_ | refine blk_alloc ?_ _)); exact BK261.out⟩, ⟨by (with_reducible repeat (first | refine blk_drewN ?_ _ | refine blk_drew ?_ | refine blk_alloc ?_ _)); refine blk_put (cs := #[.slice none 0 0]) ?_ 0 _ rfl; (with_reducible repeat (first | refine blk_drewN ?_ _ | refine blk_drew ?_ | refine blk_alloc ?_ _)); exact BK266.out⟩, ⟨by repeat (first | (with_reducible first | exact HB.out | apply below_alloc | apply pw_below_drewN | apply below_drew1 | refine below_set ?_ GE261.out | refine below_set ?_ GE266.out) | exact HB.out)⟩⟩
    case round =>
      clear H'
      try clear c1
      try clear p2
      try clear c4
      try clear c9
      try clear c11
      try clear c12
      try clear hcz13_0
      try clear hcz8_0
      try clear hfz13_0
      try clear hfz8_0
      obtain ⟨x22_1, x267000_1, u267000, rfl, HA, HK1, HO_267000, BK261, BK266, HB⟩ := hrel
      cases gk with
      | zero => exact absurd HA.out (by simp [mainsheetlaw08_PoolDoes.l0])
      | succ k1 =>
        have H := HA.out
        clear HA
        simp only [mainsheetlaw08_PoolDoes.l0] at H
        by_cases c14 : x22_1 < (l1.length : Int)
        · rw [if_pos c14] at H
          have c14b0 : decide (x22_1 < (l1.length : Int)) = true := decide_eq_true c14
          clear c14
          by_cases c15 : 0 ≤ x22_1
          · rw [if_pos c15] at H
            have c15b0 : decide (0 ≤ x22_1) = true := decide_eq_true c15
            clear c15
            by_cases c16 : x22_1 < (l1.length : Int)
            · rw [if_pos c16] at H
              have c16b0 : decide (x22_1 < (l1.length : Int)) = true := decide_eq_true c16
              clear c16
              by_cases c17 : x22_1 = 30
              · rw [if_pos c17] at H
                have c17b0 : (x22_1 == 30) = true := beq_iff_eq.mpr c17
                have c17b1 : (x22_1 != 30) = false := bne_eq_false_iff_eq.mpr c17
                clear c17
                obtain rfl := Option.some.inj H
                have p267 : 0 ≤ (x22_1 : Int) := of_decide_eq_true (by first | (with_reducible assumption) | assumption)
                have q267 : x22_1 < (l1.length : Int) := of_decide_eq_true (by first | (with_reducible assumption) | assumption)
                obtain ⟨ad267, e267, hx267_0, hx267_1, hx267_2, hx267_3, hx267_4⟩ := at_T36 HR1.out x22_1 p267 q267
                cases e267
                replace hx267_0 := (HB.out.cell (World.block_lt_of_cell? w _ hx267_0)).trans hx267_0
                replace hx267_1 := (HB.out.cell (World.block_lt_of_cell? w _ hx267_1)).trans hx267_1
                replace hx267_2 := (HB.out.cell (World.block_lt_of_cell? w _ hx267_2)).trans hx267_2
                replace hx267_3 := (HB.out.cell (World.block_lt_of_cell? w _ hx267_3)).trans hx267_3
                replace hx267_4 := (HB.out.cell (World.block_lt_of_cell? w _ hx267_4)).trans hx267_4
                replace p267 := eq_true p267
                replace q267 := eq_true q267
                go_wp2_with (first | ((with_reducible refine gate_dst (N := 7) rfl ?_); refine box_event ?hg (N := 7) ?hd (cs := #[.int .i64 0, .int .i64 0, .int .i64 0, .int .i64 0, .int .u32 0]) (t := 36) ?hr ?_; (case hd => rfl); (case hg => rfl); (case hr => first | (go_simp; done) | (go_simp; rfl)); intro gb268 hg w18 hbox hb; have n0_ := Aside0.mk (Kd.R_below (by (with_reducible repeat (first | apply Kd.R_alloc | apply Kd.R_drewN | apply Kd.R_drew)); exact HO_267000.out) hb); have n1_ := Aside0.mk (blk_below (g := gb261) (o := .cells #[.slice A0_0 l0_0.length c0_0] 26 (0, 0)) (by (with_reducible repeat (first | refine blk_drewN ?_ _ | refine blk_drew ?_ | refine blk_alloc ?_ _)); exact BK261.out) hb); have n2_ := Aside0.mk (blk_below (g := gb266) (o := .cells #[u267000] 26 (0, 0)) (by (with_reducible repeat (first | refine blk_drewN ?_ _ | refine blk_drew ?_ | refine blk_alloc ?_ _)); exact BK266.out) hb); have n3_ := Aside0.mk (below_step (by repeat (first | (with_reducible first | exact HB.out | apply below_alloc | apply pw_below_drewN | apply below_drew1 | refine below_set ?_ GE261.out | refine below_set ?_ GE266.out) | exact HB.out)) hb); have n4_ := Aside0.mk (hbox); have n5_ := Aside0.mk ((by rw [hg]; exact (below_size (by repeat (first | (with_reducible first | exact HB.out | apply below_alloc | apply pw_below_drewN | apply below_drew1 | refine below_set ?_ GE261.out | refine below_set ?_ GE266.out) | exact HB.out))) : w.heap.size ≤ gb268)); have n6_ := Aside0.mk ((by rw [hg]; exact (below_size (by repeat (first | (with_reducible first | exact HB.out | apply below_alloc | apply pw_below_drewN | apply below_drew1 | refine below_set ?_ GE261.out | refine below_set ?_ GE266.out) | exact HB.out))) : w.heap.size ≤ gb268)); have n7_ := Aside0.mk ((by rw [hg]; exact Nat.ne_of_lt (blk_lt (g := gb261) (o := .cells #[.slice A0_0 l0_0.length c0_0] 26 (0, 0)) (by (with_reducible repeat (first | refine blk_drewN ?_ _ | refine blk_drew ?_ | refine blk_alloc ?_ _)); exact BK261.out)) : gb261 ≠ gb268)); have n8_ := Aside0.mk ((by rw [hg]; exact Nat.ne_of_gt (blk_lt (g := gb261) (o := .cells #[.slice A0_0 l0_0.length c0_0] 26 (0, 0)) (by (with_reducible repeat (first | refine blk_drewN ?_ _ | refine blk_drew ?_ | refine blk_alloc ?_ _)); exact BK261.out)) : gb268 ≠ gb261)); have n9_ := Aside0.mk ((by rw [hg]; exact Nat.ne_of_lt (blk_lt (g := gb266) (o := .cells #[u267000] 26 (0, 0)) (by (with_reducible repeat (first | refine blk_drewN ?_ _ | refine blk_drew ?_ | refine blk_alloc ?_ _)); exact BK266.out)) : gb266 ≠ gb268)); have n10_ := Aside0.mk ((by rw [hg]; exact Nat.ne_of_gt (blk_lt (g := gb266) (o := .cells #[u267000] 26 (0, 0)) (by (with_reducible repeat (first | refine blk_drewN ?_ _ | refine blk_drew ?_ | refine blk_alloc ?_ _)); exact BK266.out)) : gb268 ≠ gb266)); clear HO_267000; clear BK261; clear BK266; clear HB; have HO_267000 := n0_; have BK261 := n1_; have BK266 := n2_; have HB := n3_; have BK268 := n4_; have GW268 := n5_; have GE268 := n6_; have NB261_268 := n7_; have NB268_261 := n8_; have NB266_268 := n9_; have NB268_266 := n10_; clear n0_ n1_ n2_ n3_ n4_ n5_ n6_ n7_ n8_ n9_ n10_; clear hb hbox hg; have hnb19 := NB268_261.out; have hnc19 := NB261_268.out; have hnb20 := NB268_266.out; have hnc20 := NB266_268.out; have hcz21_0 : w18.cell? ⟨gb268, 0, none⟩ = some (.int .i64 0) := (blk_cell BK268.out 0).trans rfl; have hcz21_1 : w18.cell? ⟨gb268, 1, none⟩ = some (.int .i64 0) := (blk_cell BK268.out 1).trans rfl; have hcz21_2 : w18.cell? ⟨gb268, 2, none⟩ = some (.int .i64 0) := (blk_cell BK268.out 2).trans rfl; have hcz21_3 : w18.cell? ⟨gb268, 3, none⟩ = some (.int .i64 0) := (blk_cell BK268.out 3).trans rfl; have hcz21_4 : w18.cell? ⟨gb268, 4, none⟩ = some (.int .u32 0) := (blk_cell BK268.out 4).trans rfl; have hfz21_0 := blk_frozen BK268.out 0; have hfz21_1 := blk_frozen BK268.out 1; have hfz21_2 := blk_frozen BK268.out 2; have hfz21_3 := blk_frozen BK268.out 3; have hfz21_4 := blk_frozen BK268.out 4))
                go_ret
                exact ⟨by first | rfl | (simp [errW_none, errW_some] <;> rfl) | (simp [*, errW_none, errW_some] <;> rfl), by repeat (first | (with_reducible first | exact HB.out | apply below_alloc | apply pw_below_drewN | apply below_drew1 | refine below_set ?_ GE261.out | refine below_set ?_ GE266.out | refine below_set ?_ GE268.out) | exact HB.out)⟩
              · rw [if_neg c17] at H
                have c17b0 : (x22_1 == 30) = false := beq_eq_false_iff_ne.mpr c17
                have c17b1 : (x22_1 != 30) = true := bne_iff_ne.mpr c17
                replace H := Option.bind_eq_some_iff.mp H
                obtain ⟨t269, A220, H⟩ := H
                replace H : ((mainsheetlaw08_Op_run.f k1 ((rd_T36 l1 x22_1).f0) ((rd_T36 l1 x22_1).f1) ((rd_T36 l1 x22_1).f2) ((rd_T36 l1 x22_1).f3) ((rd_T36 l1 x22_1).f4) x267000_1).bind fun bt273 => ((mainsheetlaw08_short.f t269).bind fun t279 => ((mainsheetlaw08_Op_wants.f k1 ((rd_T36 l1 x22_1).f0) ((rd_T36 l1 x22_1).f1) ((rd_T36 l1 x22_1).f2) ((rd_T36 l1 x22_1).f3) ((rd_T36 l1 x22_1).f4) t279).bind fun bt282 => (if bt273.2.2 = bt282.2.2 then (if bt273.2.1 = bt282.2.1 then ((mainsheetref08_Same.f k1 bt273.1 bt282.1).bind fun t288 => (if t288 = true then ((mainsheetref08_Same.f k1 x267000_1 t269).bind fun t289 => (mainsheetlaw08_PoolDoes.j1 k1 bt273.2.2 l1 (l1.length : Int) x22_1 (!t289) x267000_1 t269 bt273.1 bt282.1)) else (mainsheetlaw08_PoolDoes.j1 k1 bt273.2.2 l1 (l1.length : Int) x22_1 true x267000_1 t269 bt273.1 bt282.1))) else (mainsheetlaw08_PoolDoes.j1 k1 bt273.2.2 l1 (l1.length : Int) x22_1 true x267000_1 t269 bt273.1 bt282.1)) else (mainsheetlaw08_PoolDoes.j1 k1 bt273.2.2 l1 (l1.length : Int) x22_1 true x267000_1 t269 bt273.1 bt282.1))))) = some r := H
                have A22 := Aside0.mk A220
                clear A220
                replace H := Option.bind_eq_some_iff.mp H
                obtain ⟨⟨t273, t276, t277⟩, A230, H⟩ := H
                replace H : ((mainsheetlaw08_short.f t269).bind fun t279 => ((mainsheetlaw08_Op_wants.f k1 ((rd_T36 l1 x22_1).f0) ((rd_T36 l1 x22_1).f1) ((rd_T36 l1 x22_1).f2) ((rd_T36 l1 x22_1).f3) ((rd_T36 l1 x22_1).f4) t279).bind fun bt282 => (if t277 = bt282.2.2 then (if t276 = bt282.2.1 then ((mainsheetref08_Same.f k1 t273 bt282.1).bind fun t288 => (if t288 = true then ((mainsheetref08_Same.f k1 x267000_1 t269).bind fun t289 => (mainsheetlaw08_PoolDoes.j1 k1 t277 l1 (l1.length : Int) x22_1 (!t289) x267000_1 t269 t273 bt282.1)) else (mainsheetlaw08_PoolDoes.j1 k1 t277 l1 (l1.length : Int) x22_1 true x267000_1 t269 t273 bt282.1))) else (mainsheetlaw08_PoolDoes.j1 k1 t277 l1 (l1.length : Int) x22_1 true x267000_1 t269 t273 bt282.1)) else (mainsheetlaw08_PoolDoes.j1 k1 t277 l1 (l1.length : Int) x22_1 true x267000_1 t269 t273 bt282.1)))) = some r := H
                have A23 := Aside0.mk A230
                clear A230
                replace H := Option.bind_eq_some_iff.mp H
                obtain ⟨t279, A240, H⟩ := H
                replace H : ((mainsheetlaw08_Op_wants.f k1 ((rd_T36 l1 x22_1).f0) ((rd_T36 l1 x22_1).f1) ((rd_T36 l1 x22_1).f2) ((rd_T36 l1 x22_1).f3) ((rd_T36 l1 x22_1).f4) t279).bind fun bt282 => (if t277 = bt282.2.2 then (if t276 = bt282.2.1 then ((mainsheetref08_Same.f k1 t273 bt282.1).bind fun t288 => (if t288 = true then ((mainsheetref08_Same.f k1 x267000_1 t269).bind fun t289 => (mainsheetlaw08_PoolDoes.j1 k1 t277 l1 (l1.length : Int) x22_1 (!t289) x267000_1 t269 t273 bt282.1)) else (mainsheetlaw08_PoolDoes.j1 k1 t277 l1 (l1.length : Int) x22_1 true x267000_1 t269 t273 bt282.1))) else (mainsheetlaw08_PoolDoes.j1 k1 t277 l1 (l1.length : Int) x22_1 true x267000_1 t269 t273 bt282.1)) else (mainsheetlaw08_PoolDoes.j1 k1 t277 l1 (l1.length : Int) x22_1 true x267000_1 t269 t273 bt282.1))) = some r := H
                have A24 := Aside0.mk A240
                clear A240
                replace H := Option.bind_eq_some_iff.mp H
                obtain ⟨⟨t282, t285, t286⟩, A250, H⟩ := H
                replace H : (if t277 = t286 then (if t276 = t285 then ((mainsheetref08_Same.f k1 t273 t282).bind fun t288 => (if t288 = true then ((mainsheetref08_Same.f k1 x267000_1 t269).bind fun t289 => (mainsheetlaw08_PoolDoes.j1 k1 t277 l1 (l1.length : Int) x22_1 (!t289) x267000_1 t269 t273 t282)) else (mainsheetlaw08_PoolDoes.j1 k1 t277 l1 (l1.length : Int) x22_1 true x267000_1 t269 t273 t282))) else (mainsheetlaw08_PoolDoes.j1 k1 t277 l1 (l1.length : Int) x22_1 true x267000_1 t269 t273 t282)) else (mainsheetlaw08_PoolDoes.j1 k1 t277 l1 (l1.length : Int) x22_1 true x267000_1 t269 t273 t282)) = some r := H
                have A25 := Aside0.mk A250
                clear A250
                have HC26 := Aside0.mk H
                clear H
                have p267 : 0 ≤ (x22_1 : Int) := of_decide_eq_true (by first | (with_reducible assumption) | assumption)
                have q267 : x22_1 < (l1.length : Int) := of_decide_eq_true (by first | (with_reducible assumption) | assumption)
                obtain ⟨ad267, e267, hx267_0, hx267_1, hx267_2, hx267_3, hx267_4⟩ := at_T36 HR1.out x22_1 p267 q267
                cases e267
                replace hx267_0 := (HB.out.cell (World.block_lt_of_cell? w _ hx267_0)).trans hx267_0
                replace hx267_1 := (HB.out.cell (World.block_lt_of_cell? w _ hx267_1)).trans hx267_1
                replace hx267_2 := (HB.out.cell (World.block_lt_of_cell? w _ hx267_2)).trans hx267_2
                replace hx267_3 := (HB.out.cell (World.block_lt_of_cell? w _ hx267_3)).trans hx267_3
                replace hx267_4 := (HB.out.cell (World.block_lt_of_cell? w _ hx267_4)).trans hx267_4
                replace p267 := eq_true p267
                replace q267 := eq_true q267
                try go_wp2_with (first | ((with_reducible refine gate_dst (N := 7) rfl ?_); refine box_event ?hg (N := 7) ?hd (cs := #[.int .i64 0, .int .i64 0, .int .i64 0, .int .i64 0, .int .u32 0]) (t := 36) ?hr ?_; (case hd => rfl); (case hg => rfl); (case hr => first | (go_simp; done) | (go_simp; rfl)); intro gb268 hg w27 hbox hb; have n0_ := Aside0.mk (Kd.R_below (by (with_reducible repeat (first | apply Kd.R_alloc | apply Kd.R_drewN | apply Kd.R_drew)); exact HO_267000.out) hb); have n1_ := Aside0.mk (blk_below (g := gb261) (o := .cells #[.slice A0_0 l0_0.length c0_0] 26 (0, 0)) (by (with_reducible repeat (first | refine blk_drewN ?_ _ | refine blk_drew ?_ | refine blk_alloc ?_ _)); exact BK261.out) hb); have n2_ := Aside0.mk (blk_below (g := gb266) (o := .cells #[u267000] 26 (0, 0)) (by (with_reducible repeat (first | refine blk_drewN ?_ _ | refine blk_drew ?_ | refine blk_alloc ?_ _)); exact BK266.out) hb); have n3_ := Aside0.mk (below_step (by repeat (first | (with_reducible first | exact HB.out | apply below_alloc | apply pw_below_drewN | apply below_drew1 | refine below_set ?_ GE261.out | refine below_set ?_ GE266.out) | exact HB.out)) hb); have n4_ := Aside0.mk (hbox); have n5_ := Aside0.mk ((by rw [hg]; exact (below_size (by repeat (first | (with_reducible first | exact HB.out | apply below_alloc | apply pw_below_drewN | apply below_drew1 | refine below_set ?_ GE261.out | refine below_set ?_ GE266.out) | exact HB.out))) : w.heap.size ≤ gb268)); have n6_ := Aside0.mk ((by rw [hg]; exact (below_size (by repeat (first | (with_reducible first | exact HB.out | apply below_alloc | apply pw_below_drewN | apply below_drew1 | refine below_set ?_ GE261.out | refine below_set ?_ GE266.out) | exact HB.out))) : w.heap.size ≤ gb268)); have n7_ := Aside0.mk ((by rw [hg]; exact Nat.ne_of_lt (blk_lt (g := gb261) (o := .cells #[.slice A0_0 l0_0.length c0_0] 26 (0, 0)) (by (with_reducible repeat (first | refine blk_drewN ?_ _ | refine blk_drew ?_ | refine blk_alloc ?_ _)); exact BK261.out)) : gb261 ≠ gb268)); have n8_ := Aside0.mk ((by rw [hg]; exact Nat.ne_of_gt (blk_lt (g := gb261) (o := .cells #[.slice A0_0 l0_0.length c0_0] 26 (0, 0)) (by (with_reducible repeat (first | refine blk_drewN ?_ _ | refine blk_drew ?_ | refine blk_alloc ?_ _)); exact BK261.out)) : gb268 ≠ gb261)); have n9_ := Aside0.mk ((by rw [hg]; exact Nat.ne_of_lt (blk_lt (g := gb266) (o := .cells #[u267000] 26 (0, 0)) (by (with_reducible repeat (first | refine blk_drewN ?_ _ | refine blk_drew ?_ | refine blk_alloc ?_ _)); exact BK266.out)) : gb266 ≠ gb268)); have n10_ := Aside0.mk ((by rw [hg]; exact Nat.ne_of_gt (blk_lt (g := gb266) (o := .cells #[u267000] 26 (0, 0)) (by (with_reducible repeat (first | refine blk_drewN ?_ _ | refine blk_drew ?_ | refine blk_alloc ?_ _)); exact BK266.out)) : gb268 ≠ gb266)); clear HO_267000; clear BK261; clear BK266; clear HB; have HO_267000 := n0_; have BK261 := n1_; have BK266 := n2_; have HB := n3_; have BK268 := n4_; have GW268 := n5_; have GE268 := n6_; have NB261_268 := n7_; have NB268_261 := n8_; have NB266_268 := n9_; have NB268_266 := n10_; clear n0_ n1_ n2_ n3_ n4_ n5_ n6_ n7_ n8_ n9_ n10_; clear hb hbox hg; have hnb28 := NB268_261.out; have hnc28 := NB261_268.out; have hnb29 := NB268_266.out; have hnc29 := NB266_268.out; have hcz30_0 : w27.cell? ⟨gb268, 0, none⟩ = some (.int .i64 0) := (blk_cell BK268.out 0).trans rfl; have hcz30_1 : w27.cell? ⟨gb268, 1, none⟩ = some (.int .i64 0) := (blk_cell BK268.out 1).trans rfl; have hcz30_2 : w27.cell? ⟨gb268, 2, none⟩ = some (.int .i64 0) := (blk_cell BK268.out 2).trans rfl; have hcz30_3 : w27.cell? ⟨gb268, 3, none⟩ = some (.int .i64 0) := (blk_cell BK268.out 3).trans rfl; have hcz30_4 : w27.cell? ⟨gb268, 4, none⟩ = some (.int .u32 0) := (blk_cell BK268.out 4).trans rfl; have hfz30_0 := blk_frozen BK268.out 0; have hfz30_1 := blk_frozen BK268.out 1; have hfz30_2 := blk_frozen BK268.out 2; have hfz30_3 := blk_frozen BK268.out 3; have hfz30_4 := blk_frozen BK268.out 4; have hnb31 := NB266_261.out; have hnc31 := NB261_266.out; have hcz32_0 : w27.cell? ⟨gb266, 0, none⟩ = some (u267000) := (blk_cell BK266.out 0).trans rfl; have hfz32_0 := blk_frozen BK266.out 0; obtain ⟨Ao33, co33, eo33⟩ := Kd.R_slice HO_267000.out; subst eo33) | ((with_reducible refine gate_callee (f := 11) rfl ?_); refine goesL_ (some 30) rfl rfl Try.func11 (by kernel_rfl) rfl #[.agg #[.slice Ao33 x267000_1.length co33]] rfl (by (try simp only [List.map_toArray, List.map_cons, List.map_nil]); first | done | rfl | (simp only [List.length_drop, List.length_take]; rfl)) ?_; (with_reducible refine (mainsheetlaw08_short.calls _ _ x267000_1 t269 _ ?side1 ?side2 A22.out).mono ?_); (case side1 => refine (Kd.R_reads' (e := 31) (base := w.heap.size) (ok := fun k_ => True) (n := x267000_1.length) (c := co33) ?_).2.2; exact (by (with_reducible repeat (first | apply Kd.R_alloc | apply Kd.R_drewN | apply Kd.R_drew)); exact (Kd.R_mono (Kd.R_far (p := ⟨gb268, 4, none⟩) (Kd.R_far (p := ⟨gb268, 3, none⟩) (Kd.R_far (p := ⟨gb268, 2, none⟩) (Kd.R_far (p := ⟨gb268, 1, none⟩) (Kd.R_far (p := ⟨gb268, 0, none⟩) (Kd.R_types HO_267000.out BK268.out (by decide)) (fun _ hk => hk.2) (.int .i64 ((rd_T36 l1 x22_1).f0))) (fun _ hk => hk.2) (.int .i64 ((rd_T36 l1 x22_1).f1))) (fun _ hk => hk.2) (.int .i64 ((rd_T36 l1 x22_1).f2))) (fun _ hk => hk.2) (.int .i64 ((rd_T36 l1 x22_1).f3))) (fun _ hk => hk.2) (.int .u32 ((rd_T36 l1 x22_1).f4))) (fun _ h_ => h_.1)))); (case side2 => exact (Kd.R_reads' HO_267000.out).2.1); rintro e w34 ⟨v270, rfl, ho0, hb⟩; refine ⟨_, rfl, ?_⟩; have n0_ := Aside0.mk (Kd.R_elder' (by (with_reducible repeat (first | apply Kd.R_alloc | apply Kd.R_drewN | apply Kd.R_drew)); exact (Kd.R_mono (Kd.R_far (p := ⟨gb268, 4, none⟩) (Kd.R_far (p := ⟨gb268, 3, none⟩) (Kd.R_far (p := ⟨gb268, 2, none⟩) (Kd.R_far (p := ⟨gb268, 1, none⟩) (Kd.R_far (p := ⟨gb268, 0, none⟩) (Kd.R_types HO_267000.out BK268.out (by decide)) (fun _ hk => hk.2) (.int .i64 ((rd_T36 l1 x22_1).f0))) (fun _ hk => hk.2) (.int .i64 ((rd_T36 l1 x22_1).f1))) (fun _ hk => hk.2) (.int .i64 ((rd_T36 l1 x22_1).f2))) (fun _ hk => hk.2) (.int .i64 ((rd_T36 l1 x22_1).f3))) (fun _ hk => hk.2) (.int .u32 ((rd_T36 l1 x22_1).f4))) (fun _ h_ => h_.1))) (Kd.R_base ho0) hb); have n1_ := Aside0.mk (Kd.R_lower (Kd.R_new' ho0 (Kd.R_lt (by (with_reducible repeat (first | apply Kd.R_alloc | apply Kd.R_drewN | apply Kd.R_drew)); exact (Kd.R_mono (Kd.R_far (p := ⟨gb268, 4, none⟩) (Kd.R_far (p := ⟨gb268, 3, none⟩) (Kd.R_far (p := ⟨gb268, 2, none⟩) (Kd.R_far (p := ⟨gb268, 1, none⟩) (Kd.R_far (p := ⟨gb268, 0, none⟩) (Kd.R_types HO_267000.out BK268.out (by decide)) (fun _ hk => hk.2) (.int .i64 ((rd_T36 l1 x22_1).f0))) (fun _ hk => hk.2) (.int .i64 ((rd_T36 l1 x22_1).f1))) (fun _ hk => hk.2) (.int .i64 ((rd_T36 l1 x22_1).f2))) (fun _ hk => hk.2) (.int .i64 ((rd_T36 l1 x22_1).f3))) (fun _ hk => hk.2) (.int .u32 ((rd_T36 l1 x22_1).f4))) (fun _ h_ => h_.1))))) (below_size (by repeat (first | (with_reducible first | exact HB.out | apply below_alloc | apply pw_below_drewN | apply below_drew1 | refine below_set ?_ GE261.out | refine below_set ?_ GE266.out | refine below_set ?_ GE268.out) | exact HB.out)))); have n2_ := Aside0.mk (blk_below (g := gb261) (o := .cells #[.slice A0_0 l0_0.length c0_0] 26 (0, 0)) (by (with_reducible repeat (first | refine blk_drewN ?_ _ | refine blk_drew ?_ | refine blk_alloc ?_ _)); refine blk_far ?_ NB261_268.out _; (with_reducible repeat (first | refine blk_drewN ?_ _ | refine blk_drew ?_ | refine blk_alloc ?_ _)); refine blk_far ?_ NB261_268.out _; (with_reducible repeat (first | refine blk_drewN ?_ _ | refine blk_drew ?_ | refine blk_alloc ?_ _)); refine blk_far ?_ NB261_268.out _; (with_reducible repeat (first | refine blk_drewN ?_ _ | refine blk_drew ?_ | refine blk_alloc ?_ _)); refine blk_far ?_ NB261_268.out _; (with_reducible repeat (first | refine blk_drewN ?_ _ | refine blk_drew ?_ | refine blk_alloc ?_ _)); refine blk_far ?_ NB261_268.out _; (with_reducible repeat (first | refine blk_drewN ?_ _ | refine blk_drew ?_ | refine blk_alloc ?_ _)); exact BK261.out) hb); have n3_ := Aside0.mk (blk_below (g := gb266) (o := .cells #[.slice Ao33 x267000_1.length co33] 26 (0, 0)) (by (with_reducible repeat (first | refine blk_drewN ?_ _ | refine blk_drew ?_ | refine blk_alloc ?_ _)); refine blk_far ?_ NB266_268.out _; (with_reducible repeat (first | refine blk_drewN ?_ _ | refine blk_drew ?_ | refine blk_alloc ?_ _)); refine blk_far ?_ NB266_268.out _; (with_reducible repeat (first | refine blk_drewN ?_ _ | refine blk_drew ?_ | refine blk_alloc ?_ _)); refine blk_far ?_ NB266_268.out _; (with_reducible repeat (first | refine blk_drewN ?_ _ | refine blk_drew ?_ | refine blk_alloc ?_ _)); refine blk_far ?_ NB266_268.out _; (with_reducible repeat (first | refine blk_drewN ?_ _ | refine blk_drew ?_ | refine blk_alloc ?_ _)); refine blk_far ?_ NB266_268.out _; (with_reducible repeat (first | refine blk_drewN ?_ _ | refine blk_drew ?_ | refine blk_alloc ?_ _)); exact BK266.out) hb); have n4_ := Aside0.mk (blk_below (g := gb268) (o := .cells #[.int .i64 ((rd_T36 l1 x22_1).f0), .int .i64 ((rd_T36 l1 x22_1).f1), .int .i64 ((rd_T36 l1 x22_1).f2), .int .i64 ((rd_T36 l1 x22_1).f3), .int .u32 ((rd_T36 l1 x22_1).f4)] 36 (0, 0)) (by (with_reducible repeat (first | refine blk_drewN ?_ _ | refine blk_drew ?_ | refine blk_alloc ?_ _)); refine blk_put (cs := #[.int .i64 ((rd_T36 l1 x22_1).f0), .int .i64 ((rd_T36 l1 x22_1).f1), .int .i64 ((rd_T36 l1 x22_1).f2), .int .i64 ((rd_T36 l1 x22_1).f3), .int .u32 0]) ?_ 4 _ rfl; (with_reducible repeat (first | refine blk_drewN ?_ _ | refine blk_drew ?_ | refine blk_alloc ?_ _)); refine blk_put (cs := #[.int .i64 ((rd_T36 l1 x22_1).f0), .int .i64 ((rd_T36 l1 x22_1).f1), .int .i64 ((rd_T36 l1 x22_1).f2), .int .i64 0, .int .u32 0]) ?_ 3 _ rfl; (with_reducible repeat (first | refine blk_drewN ?_ _ | refine blk_drew ?_ | refine blk_alloc ?_ _)); refine blk_put (cs := #[.int .i64 ((rd_T36 l1 x22_1).f0), .int .i64 ((rd_T36 l1 x22_1).f1), .int .i64 0, .int .i64 0, .int .u32 0]) ?_ 2 _ rfl; (with_reducible repeat (first | refine blk_drewN ?_ _ | refine blk_drew ?_ | refine blk_alloc ?_ _)); refine blk_put (cs := #[.int .i64 ((rd_T36 l1 x22_1).f0), .int .i64 0, .int .i64 0, .int .i64 0, .int .u32 0]) ?_ 1 _ rfl; (with_reducible repeat (first | refine blk_drewN ?_ _ | refine blk_drew ?_ | refine blk_alloc ?_ _)); refine blk_put (cs := #[.int .i64 0, .int .i64 0, .int .i64 0, .int .i64 0, .int .u32 0]) ?_ 0 _ rfl; (with_reducible repeat (first | refine blk_drewN ?_ _ | refine blk_drew ?_ | refine blk_alloc ?_ _)); exact BK268.out) hb); have n5_ := Aside0.mk (below_step (by repeat (first | (with_reducible first | exact HB.out | apply below_alloc | apply pw_below_drewN | apply below_drew1 | refine below_set ?_ GE261.out | refine below_set ?_ GE266.out | refine below_set ?_ GE268.out) | exact HB.out)) hb); clear HO_267000; clear BK261; clear BK266; clear BK268; clear HB; have HO_267000 := n0_; have HO271 := n1_; have BK261 := n2_; have BK266 := n3_; have BK268 := n4_; have HB := n5_; clear n0_ n1_ n2_ n3_ n4_ n5_; (try clear hb); (try clear hb2); (try clear hk); (try clear hi); (try clear ho0)) | ((with_reducible refine gate_dst (N := 8) rfl ?_); refine box_event ?hg (N := 8) ?hd (cs := #[.slice none 0 0]) (t := 26) ?hr ?_; (case hd => rfl); (case hg => rfl); (case hr => first | (go_simp; done) | (go_simp; rfl)); intro gb272 hg w35 hbox hb; have n0_ := Aside0.mk (Kd.R_below (by (with_reducible repeat (first | apply Kd.R_alloc | apply Kd.R_drewN | apply Kd.R_drew)); exact HO_267000.out) hb); have n1_ := Aside0.mk (Kd.R_below (by (with_reducible repeat (first | apply Kd.R_alloc | apply Kd.R_drewN | apply Kd.R_drew)); exact HO271.out) hb); have n2_ := Aside0.mk (blk_below (g := gb261) (o := .cells #[.slice A0_0 l0_0.length c0_0] 26 (0, 0)) (by (with_reducible repeat (first | refine blk_drewN ?_ _ | refine blk_drew ?_ | refine blk_alloc ?_ _)); exact BK261.out) hb); have n3_ := Aside0.mk (blk_below (g := gb266) (o := .cells #[.slice Ao33 x267000_1.length co33] 26 (0, 0)) (by (with_reducible repeat (first | refine blk_drewN ?_ _ | refine blk_drew ?_ | refine blk_alloc ?_ _)); exact BK266.out) hb); have n4_ := Aside0.mk (blk_below (g := gb268) (o := .cells #[.int .i64 ((rd_T36 l1 x22_1).f0), .int .i64 ((rd_T36 l1 x22_1).f1), .int .i64 ((rd_T36 l1 x22_1).f2), .int .i64 ((rd_T36 l1 x22_1).f3), .int .u32 ((rd_T36 l1 x22_1).f4)] 36 (0, 0)) (by (with_reducible repeat (first | refine blk_drewN ?_ _ | refine blk_drew ?_ | refine blk_alloc ?_ _)); exact BK268.out) hb); have n5_ := Aside0.mk (below_step (by repeat (first | (with_reducible first | exact HB.out | apply below_alloc | apply pw_below_drewN | apply below_drew1 | refine below_set ?_ GE261.out | refine below_set ?_ GE266.out | refine below_set ?_ GE268.out) | exact HB.out)) hb); have n6_ := Aside0.mk (hbox); have n7_ := Aside0.mk ((by rw [hg]; exact (below_size (by repeat (first | (with_reducible first | exact HB.out | apply below_alloc | apply pw_below_drewN | apply below_drew1 | refine below_set ?_ GE261.out | refine below_set ?_ GE266.out | refine below_set ?_ GE268.out) | exact HB.out))) : w.heap.size ≤ gb272)); have n8_ := Aside0.mk ((by rw [hg]; exact (below_size (by repeat (first | (with_reducible first | exact HB.out | apply below_alloc | apply pw_below_drewN | apply below_drew1 | refine below_set ?_ GE261.out | refine below_set ?_ GE266.out | refine below_set ?_ GE268.out) | exact HB.out))) : w.heap.size ≤ gb272)); have n9_ := Aside0.mk ((by rw [hg]; exact Nat.ne_of_lt (blk_lt (g := gb261) (o := .cells #[.slice A0_0 l0_0.length c0_0] 26 (0, 0)) (by (with_reducible repeat (first | refine blk_drewN ?_ _ | refine blk_drew ?_ | refine blk_alloc ?_ _)); exact BK261.out)) : gb261 ≠ gb272)); have n10_ := Aside0.mk ((by rw [hg]; exact Nat.ne_of_gt (blk_lt (g := gb261) (o := .cells #[.slice A0_0 l0_0.length c0_0] 26 (0, 0)) (by (with_reducible repeat (first | refine blk_drewN ?_ _ | refine blk_drew ?_ | refine blk_alloc ?_ _)); exact BK261.out)) : gb272 ≠ gb261)); have n11_ := Aside0.mk ((by rw [hg]; exact Nat.ne_of_lt (blk_lt (g := gb266) (o := .cells #[.slice Ao33 x267000_1.length co33] 26 (0, 0)) (by (with_reducible repeat (first | refine blk_drewN ?_ _ | refine blk_drew ?_ | refine blk_alloc ?_ _)); exact BK266.out)) : gb266 ≠ gb272)); have n12_ := Aside0.mk ((by rw [hg]; exact Nat.ne_of_gt (blk_lt (g := gb266) (o := .cells #[.slice Ao33 x267000_1.length co33] 26 (0, 0)) (by (with_reducible repeat (first | refine blk_drewN ?_ _ | refine blk_drew ?_ | refine blk_alloc ?_ _)); exact BK266.out)) : gb272 ≠ gb266)); have n13_ := Aside0.mk ((by rw [hg]; exact Nat.ne_of_lt (blk_lt (g := gb268) (o := .cells #[.int .i64 ((rd_T36 l1 x22_1).f0), .int .i64 ((rd_T36 l1 x22_1).f1), .int .i64 ((rd_T36 l1 x22_1).f2), .int .i64 ((rd_T36 l1 x22_1).f3), .int .u32 ((rd_T36 l1 x22_1).f4)] 36 (0, 0)) (by (with_reducible repeat (first | refine blk_drewN ?_ _ | refine blk_drew ?_ | refine blk_alloc ?_ _)); exact BK268.out)) : gb268 ≠ gb272)); have n14_ := Aside0.mk ((by rw [hg]; exact Nat.ne_of_gt (blk_lt (g := gb268) (o := .cells #[.int .i64 ((rd_T36 l1 x22_1).f0), .int .i64 ((rd_T36 l1 x22_1).f1), .int .i64 ((rd_T36 l1 x22_1).f2), .int .i64 ((rd_T36 l1 x22_1).f3), .int .u32 ((rd_T36 l1 x22_1).f4)] 36 (0, 0)) (by (with_reducible repeat (first | refine blk_drewN ?_ _ | refine blk_drew ?_ | refine blk_alloc ?_ _)); exact BK268.out)) : gb272 ≠ gb268)); clear HO_267000; clear HO271; clear BK261; clear BK266; clear BK268; clear HB; have HO_267000 := n0_; have HO271 := n1_; have BK261 := n2_; have BK266 := n3_; have BK268 := n4_; have HB := n5_; have BK272 := n6_; have GW272 := n7_; have GE272 := n8_; have NB261_272 := n9_; have NB272_261 := n10_; have NB266_272 := n11_; have NB272_266 := n12_; have NB268_272 := n13_; have NB272_268 := n14_; clear n0_ n1_ n2_ n3_ n4_ n5_ n6_ n7_ n8_ n9_ n10_ n11_ n12_ n13_ n14_; clear hb hbox hg; obtain ⟨Ao36, co36, eo36⟩ := Kd.R_slice HO271.out; subst eo36; have hnb37 := NB272_261.out; have hnc37 := NB261_272.out; have hnb38 := NB272_266.out; have hnc38 := NB266_272.out; have hnb39 := NB272_268.out; have hnc39 := NB268_272.out; have hcz40_0 : w35.cell? ⟨gb272, 0, none⟩ = some (.slice none 0 0) := (blk_cell BK272.out 0).trans rfl; have hfz40_0 := blk_frozen BK272.out 0; have hcz41_0 : w35.cell? ⟨gb268, 0, none⟩ = some (.int .i64 ((rd_T36 l1 x22_1).f0)) := (blk_cell BK268.out 0).trans rfl; have hcz41_1 : w35.cell? ⟨gb268, 1, none⟩ = some (.int .i64 ((rd_T36 l1 x22_1).f1)) := (blk_cell BK268.out 1).trans rfl; have hcz41_2 : w35.cell? ⟨gb268, 2, none⟩ = some (.int .i64 ((rd_T36 l1 x22_1).f2)) := (blk_cell BK268.out 2).trans rfl; have hcz41_3 : w35.cell? ⟨gb268, 3, none⟩ = some (.int .i64 ((rd_T36 l1 x22_1).f3)) := (blk_cell BK268.out 3).trans rfl; have hcz41_4 : w35.cell? ⟨gb268, 4, none⟩ = some (.int .u32 ((rd_T36 l1 x22_1).f4)) := (blk_cell BK268.out 4).trans rfl; have hfz41_0 := blk_frozen BK268.out 0; have hfz41_1 := blk_frozen BK268.out 1; have hfz41_2 := blk_frozen BK268.out 2; have hfz41_3 := blk_frozen BK268.out 3; have hfz41_4 := blk_frozen BK268.out 4; have hcz42_0 : w35.cell? ⟨gb266, 0, none⟩ = some (.slice Ao33 x267000_1.length co33) := (blk_cell BK266.out 0).trans rfl; have hfz42_0 := blk_frozen BK266.out 0) | ((with_reducible refine gate_callee (f := 12) rfl ?_); refine goesL_ (some 34) rfl rfl Try.func12 (by kernel_rfl) rfl #[.agg #[.int .i64 ((rd_T36 l1 x22_1).f0), .int .i64 ((rd_T36 l1 x22_1).f1), .int .i64 ((rd_T36 l1 x22_1).f2), .int .i64 ((rd_T36 l1 x22_1).f3), .int .u32 ((rd_T36 l1 x22_1).f4)], .agg #[.slice Ao33 x267000_1.length co33]] rfl (by (try simp only [List.map_toArray, List.map_cons, List.map_nil]); first | done | rfl | (simp only [List.length_drop, List.length_take]; rfl)) ?_; (with_reducible refine (mainsheetlaw08_Op_run.calls k1 ((rd_T36 l1 x22_1).f0) ((rd_T36 l1 x22_1).f1) ((rd_T36 l1 x22_1).f2) ((rd_T36 l1 x22_1).f3) ((rd_T36 l1 x22_1).f4) _ _ x267000_1 t273 t276 t277 _ ?side1 ?side2 A23.out).mono ?_); (case side1 => refine (Kd.R_reads' (e := 31) (base := w.heap.size) (ok := fun k_ => (True ∧ some k_ ≠ (.slice Ao36 t269.length co36 : Value).ownBlock)) (n := x267000_1.length) (c := co33) ?_).2.2; exact (by (with_reducible repeat (first | apply Kd.R_alloc | apply Kd.R_drewN | apply Kd.R_drew)); exact (Kd.R_mono (Kd.R_far (p := ⟨gb272, 0, none⟩) (Kd.R_types HO_267000.out BK272.out (by decide)) (fun _ hk => hk.2) (.slice Ao36 t269.length co36)) (fun _ h_ => h_.1)))); (case side2 => exact (Kd.R_reads' HO_267000.out).2.1); rintro e w43 ⟨v274, rfl, ho0, hb⟩; refine ⟨_, rfl, ?_⟩; have n0_ := Aside0.mk (Kd.R_elder' (by (with_reducible repeat (first | apply Kd.R_alloc | apply Kd.R_drewN | apply Kd.R_drew)); exact (Kd.R_mono (Kd.R_far (p := ⟨gb272, 0, none⟩) (Kd.R_types HO_267000.out BK272.out (by decide)) (fun _ hk => hk.2) (.slice Ao36 t269.length co36)) (fun _ h_ => h_.1))) (Kd.R_base ho0) hb); have n1_ := Aside0.mk (Kd.R_elder' (by (with_reducible repeat (first | apply Kd.R_alloc | apply Kd.R_drewN | apply Kd.R_drew)); exact (Kd.R_mono (Kd.R_far (p := ⟨gb272, 0, none⟩) (Kd.R_types HO271.out BK272.out (by decide)) (fun _ hk => hk.2) (.slice Ao36 t269.length co36)) (fun _ h_ => h_.1))) (Kd.R_base ho0) hb); have n2_ := Aside0.mk (Kd.R_lower (Kd.R_new' (Kd.R_new' ho0 (Kd.R_lt (by (with_reducible repeat (first | apply Kd.R_alloc | apply Kd.R_drewN | apply Kd.R_drew)); exact (Kd.R_mono (Kd.R_far (p := ⟨gb272, 0, none⟩) (Kd.R_types HO_267000.out BK272.out (by decide)) (fun _ hk => hk.2) (.slice Ao36 t269.length co36)) (fun _ h_ => h_.1))))) (Kd.R_lt (by (with_reducible repeat (first | apply Kd.R_alloc | apply Kd.R_drewN | apply Kd.R_drew)); exact (Kd.R_mono (Kd.R_far (p := ⟨gb272, 0, none⟩) (Kd.R_types HO271.out BK272.out (by decide)) (fun _ hk => hk.2) (.slice Ao36 t269.length co36)) (fun _ h_ => h_.1))))) (below_size (by repeat (first | (with_reducible first | exact HB.out | apply below_alloc | apply pw_below_drewN | apply below_drew1 | refine below_set ?_ GE261.out | refine below_set ?_ GE266.out | refine below_set ?_ GE268.out | refine below_set ?_ GE272.out) | exact HB.out)))); have n3_ := Aside0.mk (blk_below (g := gb261) (o := .cells #[.slice A0_0 l0_0.length c0_0] 26 (0, 0)) (by (with_reducible repeat (first | refine blk_drewN ?_ _ | refine blk_drew ?_ | refine blk_alloc ?_ _)); refine blk_far ?_ NB261_272.out _; (with_reducible repeat (first | refine blk_drewN ?_ _ | refine blk_drew ?_ | refine blk_alloc ?_ _)); exact BK261.out) hb); have n4_ := Aside0.mk (blk_below (g := gb266) (o := .cells #[.slice Ao33 x267000_1.length co33] 26 (0, 0)) (by (with_reducible repeat (first | refine blk_drewN ?_ _ | refine blk_drew ?_ | refine blk_alloc ?_ _)); refine blk_far ?_ NB266_272.out _; (with_reducible repeat (first | refine blk_drewN ?_ _ | refine blk_drew ?_ | refine blk_alloc ?_ _)); exact BK266.out) hb); have n5_ := Aside0.mk (blk_below (g := gb268) (o := .cells #[.int .i64 ((rd_T36 l1 x22_1).f0), .int .i64 ((rd_T36 l1 x22_1).f1), .int .i64 ((rd_T36 l1 x22_1).f2), .int .i64 ((rd_T36 l1 x22_1).f3), .int .u32 ((rd_T36 l1 x22_1).f4)] 36 (0, 0)) (by (with_reducible repeat (first | refine blk_drewN ?_ _ | refine blk_drew ?_ | refine blk_alloc ?_ _)); refine blk_far ?_ NB268_272.out _; (with_reducible repeat (first | refine blk_drewN ?_ _ | refine blk_drew ?_ | refine blk_alloc ?_ _)); exact BK268.out) hb); have n6_ := Aside0.mk (blk_below (g := gb272) (o := .cells #[.slice Ao36 t269.length co36] 26 (0, 0)) (by (with_reducible repeat (first | refine blk_drewN ?_ _ | refine blk_drew ?_ | refine blk_alloc ?_ _)); refine blk_put (cs := #[.slice none 0 0]) ?_ 0 _ rfl; (with_reducible repeat (first | refine blk_drewN ?_ _ | refine blk_drew ?_ | refine blk_alloc ?_ _)); exact BK272.out) hb); have n7_ := Aside0.mk (below_step (by repeat (first | (with_reducible first | exact HB.out | apply below_alloc | apply pw_below_drewN | apply below_drew1 | refine below_set ?_ GE261.out | refine below_set ?_ GE266.out | refine below_set ?_ GE268.out | refine below_set ?_ GE272.out) | exact HB.out)) hb); clear HO_267000; clear HO271; clear BK261; clear BK266; clear BK268; clear BK272; clear HB; have HO_267000 := n0_; have HO271 := n1_; have HO275 := n2_; have BK261 := n3_; have BK266 := n4_; have BK268 := n5_; have BK272 := n6_; have HB := n7_; clear n0_ n1_ n2_ n3_ n4_ n5_ n6_ n7_; (try clear hb); (try clear hb2); (try clear hk); (try clear hi); (try clear ho0)) | ((with_reducible refine gate_dst (N := 9) rfl ?_); refine box_event ?hg (N := 9) ?hd (cs := #[.slice none 0 0]) (t := 26) ?hr ?_; (case hd => rfl); (case hg => rfl); (case hr => first | (go_simp; done) | (go_simp; rfl)); intro gb278 hg w44 hbox hb; have n0_ := Aside0.mk (Kd.R_below (by (with_reducible repeat (first | apply Kd.R_alloc | apply Kd.R_drewN | apply Kd.R_drew)); exact HO_267000.out) hb); have n1_ := Aside0.mk (Kd.R_below (by (with_reducible repeat (first | apply Kd.R_alloc | apply Kd.R_drewN | apply Kd.R_drew)); exact HO271.out) hb); have n2_ := Aside0.mk (Kd.R_below (by (with_reducible repeat (first | apply Kd.R_alloc | apply Kd.R_drewN | apply Kd.R_drew)); exact HO275.out) hb); have n3_ := Aside0.mk (blk_below (g := gb261) (o := .cells #[.slice A0_0 l0_0.length c0_0] 26 (0, 0)) (by (with_reducible repeat (first | refine blk_drewN ?_ _ | refine blk_drew ?_ | refine blk_alloc ?_ _)); exact BK261.out) hb); have n4_ := Aside0.mk (blk_below (g := gb266) (o := .cells #[.slice Ao33 x267000_1.length co33] 26 (0, 0)) (by (with_reducible repeat (first | refine blk_drewN ?_ _ | refine blk_drew ?_ | refine blk_alloc ?_ _)); exact BK266.out) hb); have n5_ := Aside0.mk (blk_below (g := gb268) (o := .cells #[.int .i64 ((rd_T36 l1 x22_1).f0), .int .i64 ((rd_T36 l1 x22_1).f1), .int .i64 ((rd_T36 l1 x22_1).f2), .int .i64 ((rd_T36 l1 x22_1).f3), .int .u32 ((rd_T36 l1 x22_1).f4)] 36 (0, 0)) (by (with_reducible repeat (first | refine blk_drewN ?_ _ | refine blk_drew ?_ | refine blk_alloc ?_ _)); exact BK268.out) hb); have n6_ := Aside0.mk (blk_below (g := gb272) (o := .cells #[.slice Ao36 t269.length co36] 26 (0, 0)) (by (with_reducible repeat (first | refine blk_drewN ?_ _ | refine blk_drew ?_ | refine blk_alloc ?_ _)); exact BK272.out) hb); have n7_ := Aside0.mk (below_step (by repeat (first | (with_reducible first | exact HB.out | apply below_alloc | apply pw_below_drewN | apply below_drew1 | refine below_set ?_ GE261.out | refine below_set ?_ GE266.out | refine below_set ?_ GE268.out | refine below_set ?_ GE272.out) | exact HB.out)) hb); have n8_ := Aside0.mk (hbox); have n9_ := Aside0.mk ((by rw [hg]; exact (below_size (by repeat (first | (with_reducible first | exact HB.out | apply below_alloc | apply pw_below_drewN | apply below_drew1 | refine below_set ?_ GE261.out | refine below_set ?_ GE266.out | refine below_set ?_ GE268.out | refine below_set ?_ GE272.out) | exact HB.out))) : w.heap.size ≤ gb278)); have n10_ := Aside0.mk ((by rw [hg]; exact (below_size (by repeat (first | (with_reducible first | exact HB.out | apply below_alloc | apply pw_below_drewN | apply below_drew1 | refine below_set ?_ GE261.out | refine below_set ?_ GE266.out | refine below_set ?_ GE268.out | refine below_set ?_ GE272.out) | exact HB.out))) : w.heap.size ≤ gb278)); have n11_ := Aside0.mk ((by rw [hg]; exact Nat.ne_of_lt (blk_lt (g := gb261) (o := .cells #[.slice A0_0 l0_0.length c0_0] 26 (0, 0)) (by (with_reducible repeat (first | refine blk_drewN ?_ _ | refine blk_drew ?_ | refine blk_alloc ?_ _)); exact BK261.out)) : gb261 ≠ gb278)); have n12_ := Aside0.mk ((by rw [hg]; exact Nat.ne_of_gt (blk_lt (g := gb261) (o := .cells #[.slice A0_0 l0_0.length c0_0] 26 (0, 0)) (by (with_reducible repeat (first | refine blk_drewN ?_ _ | refine blk_drew ?_ | refine blk_alloc ?_ _)); exact BK261.out)) : gb278 ≠ gb261)); have n13_ := Aside0.mk ((by rw [hg]; exact Nat.ne_of_lt (blk_lt (g := gb266) (o := .cells #[.slice Ao33 x267000_1.length co33] 26 (0, 0)) (by (with_reducible repeat (first | refine blk_drewN ?_ _ | refine blk_drew ?_ | refine blk_alloc ?_ _)); exact BK266.out)) : gb266 ≠ gb278)); have n14_ := Aside0.mk ((by rw [hg]; exact Nat.ne_of_gt (blk_lt (g := gb266) (o := .cells #[.slice Ao33 x267000_1.length co33] 26 (0, 0)) (by (with_reducible repeat (first | refine blk_drewN ?_ _ | refine blk_drew ?_ | refine blk_alloc ?_ _)); exact BK266.out)) : gb278 ≠ gb266)); have n15_ := Aside0.mk ((by rw [hg]; exact Nat.ne_of_lt (blk_lt (g := gb268) (o := .cells #[.int .i64 ((rd_T36 l1 x22_1).f0), .int .i64 ((rd_T36 l1 x22_1).f1), .int .i64 ((rd_T36 l1 x22_1).f2), .int .i64 ((rd_T36 l1 x22_1).f3), .int .u32 ((rd_T36 l1 x22_1).f4)] 36 (0, 0)) (by (with_reducible repeat (first | refine blk_drewN ?_ _ | refine blk_drew ?_ | refine blk_alloc ?_ _)); exact BK268.out)) : gb268 ≠ gb278)); have n16_ := Aside0.mk ((by rw [hg]; exact Nat.ne_of_gt (blk_lt (g := gb268) (o := .cells #[.int .i64 ((rd_T36 l1 x22_1).f0), .int .i64 ((rd_T36 l1 x22_1).f1), .int .i64 ((rd_T36 l1 x22_1).f2), .int .i64 ((rd_T36 l1 x22_1).f3), .int .u32 ((rd_T36 l1 x22_1).f4)] 36 (0, 0)) (by (with_reducible repeat (first | refine blk_drewN ?_ _ | refine blk_drew ?_ | refine blk_alloc ?_ _)); exact BK268.out)) : gb278 ≠ gb268)); have n17_ := Aside0.mk ((by rw [hg]; exact Nat.ne_of_lt (blk_lt (g := gb272) (o := .cells #[.slice Ao36 t269.length co36] 26 (0, 0)) (by (with_reducible repeat (first | refine blk_drewN ?_ _ | refine blk_drew ?_ | refine blk_alloc ?_ _)); exact BK272.out)) : gb272 ≠ gb278)); have n18_ := Aside0.mk ((by rw [hg]; exact Nat.ne_of_gt (blk_lt (g := gb272) (o := .cells #[.slice Ao36 t269.length co36] 26 (0, 0)) (by (with_reducible repeat (first | refine blk_drewN ?_ _ | refine blk_drew ?_ | refine blk_alloc ?_ _)); exact BK272.out)) : gb278 ≠ gb272)); clear HO_267000; clear HO271; clear HO275; clear BK261; clear BK266; clear BK268; clear BK272; clear HB; have HO_267000 := n0_; have HO271 := n1_; have HO275 := n2_; have BK261 := n3_; have BK266 := n4_; have BK268 := n5_; have BK272 := n6_; have HB := n7_; have BK278 := n8_; have GW278 := n9_; have GE278 := n10_; have NB261_278 := n11_; have NB278_261 := n12_; have NB266_278 := n13_; have NB278_266 := n14_; have NB268_278 := n15_; have NB278_268 := n16_; have NB272_278 := n17_; have NB278_272 := n18_; clear n0_ n1_ n2_ n3_ n4_ n5_ n6_ n7_ n8_ n9_ n10_ n11_ n12_ n13_ n14_ n15_ n16_ n17_ n18_; clear hb hbox hg; obtain ⟨Ao45, co45, eo45⟩ := Kd.R_slice HO275.out; subst eo45; have hnb46 := NB278_261.out; have hnc46 := NB261_278.out; have hnb47 := NB278_266.out; have hnc47 := NB266_278.out; have hnb48 := NB278_268.out; have hnc48 := NB268_278.out; have hnb49 := NB278_272.out; have hnc49 := NB272_278.out; have hcz50_0 : w44.cell? ⟨gb278, 0, none⟩ = some (.slice none 0 0) := (blk_cell BK278.out 0).trans rfl; have hfz50_0 := blk_frozen BK278.out 0))
                have n0_ : Aside0 (Kd.R (Kd.int .u32) 31 (w44.setCell ⟨gb278, 0, none⟩ (.slice Ao45 t273.length co45)) w.heap.size (fun k_ => some k_ ≠ (.slice Ao36 t269.length co36 : Value).ownBlock ∧ some k_ ≠ (.slice Ao45 t273.length co45 : Value).ownBlock) (.slice Ao33 x267000_1.length co33) x267000_1) := ⟨by (with_reducible repeat (first | apply Kd.R_alloc | apply Kd.R_drewN | apply Kd.R_drew)); exact Kd.R_mono (Kd.R_far (p := ⟨gb278, 0, none⟩) (Kd.R_types HO_267000.out BK278.out (by decide)) (fun _ hk => hk.2) (.slice Ao45 t273.length co45)) (fun _ hk => ⟨hk.1.1.2, hk.1.2⟩)⟩
                have n1_ : Aside0 (Kd.R (Kd.int .u32) 31 (w44.setCell ⟨gb278, 0, none⟩ (.slice Ao45 t273.length co45)) w.heap.size (fun k_ => some k_ ≠ (.slice Ao33 x267000_1.length co33 : Value).ownBlock ∧ some k_ ≠ (.slice Ao45 t273.length co45 : Value).ownBlock) (.slice Ao36 t269.length co36) t269) := ⟨by (with_reducible repeat (first | apply Kd.R_alloc | apply Kd.R_drewN | apply Kd.R_drew)); exact Kd.R_mono (Kd.R_far (p := ⟨gb278, 0, none⟩) (Kd.R_types HO271.out BK278.out (by decide)) (fun _ hk => hk.2) (.slice Ao45 t273.length co45)) (fun _ hk => ⟨hk.1.1.2, hk.1.2⟩)⟩
                have n2_ : Aside0 (Kd.R (Kd.int .u32) 31 (w44.setCell ⟨gb278, 0, none⟩ (.slice Ao45 t273.length co45)) w.heap.size (fun k_ => some k_ ≠ (.slice Ao33 x267000_1.length co33 : Value).ownBlock ∧ some k_ ≠ (.slice Ao36 t269.length co36 : Value).ownBlock) (.slice Ao45 t273.length co45) t273) := ⟨by (with_reducible repeat (first | apply Kd.R_alloc | apply Kd.R_drewN | apply Kd.R_drew)); exact Kd.R_mono (Kd.R_far (p := ⟨gb278, 0, none⟩) (Kd.R_types HO275.out BK278.out (by decide)) (fun _ hk => hk.2) (.slice Ao45 t273.length co45)) (fun _ hk => ⟨hk.1.1.2, hk.1.2⟩)⟩
                have n3_ : Aside0 ((w44.setCell ⟨gb278, 0, none⟩ (.slice Ao45 t273.length co45)).heap[gb261]? = some (.cells #[.slice A0_0 l0_0.length c0_0] 26 (0, 0))) := ⟨by (with_reducible repeat (first | refine blk_drewN ?_ _ | refine blk_drew ?_ | refine blk_alloc ?_ _)); refine blk_far ?_ NB261_278.out _; (with_reducible repeat (first | refine blk_drewN ?_ _ | refine blk_drew ?_ | refine blk_alloc ?_ _)); exact BK261.out⟩
                have n4_ : Aside0 ((w44.setCell ⟨gb278, 0, none⟩ (.slice Ao45 t273.length co45)).heap[gb266]? = some (.cells #[.slice Ao33 x267000_1.length co33] 26 (0, 0))) := ⟨by (with_reducible repeat (first | refine blk_drewN ?_ _ | refine blk_drew ?_ | refine blk_alloc ?_ _)); refine blk_far ?_ NB266_278.out _; (with_reducible repeat (first | refine blk_drewN ?_ _ | refine blk_drew ?_ | refine blk_alloc ?_ _)); exact BK266.out⟩
                have n5_ : Aside0 ((w44.setCell ⟨gb278, 0, none⟩ (.slice Ao45 t273.length co45)).heap[gb268]? = some (.cells #[.int .i64 ((rd_T36 l1 x22_1).f0), .int .i64 ((rd_T36 l1 x22_1).f1), .int .i64 ((rd_T36 l1 x22_1).f2), .int .i64 ((rd_T36 l1 x22_1).f3), .int .u32 ((rd_T36 l1 x22_1).f4)] 36 (0, 0))) := ⟨by (with_reducible repeat (first | refine blk_drewN ?_ _ | refine blk_drew ?_ | refine blk_alloc ?_ _)); refine blk_far ?_ NB268_278.out _; (with_reducible repeat (first | refine blk_drewN ?_ _ | refine blk_drew ?_ | refine blk_alloc ?_ _)); exact BK268.out⟩
                have n6_ : Aside0 ((w44.setCell ⟨gb278, 0, none⟩ (.slice Ao45 t273.length co45)).heap[gb272]? = some (.cells #[.slice Ao36 t269.length co36] 26 (0, 0))) := ⟨by (with_reducible repeat (first | refine blk_drewN ?_ _ | refine blk_drew ?_ | refine blk_alloc ?_ _)); refine blk_far ?_ NB272_278.out _; (with_reducible repeat (first | refine blk_drewN ?_ _ | refine blk_drew ?_ | refine blk_alloc ?_ _)); exact BK272.out⟩
                have n7_ : Aside0 ((w44.setCell ⟨gb278, 0, none⟩ (.slice Ao45 t273.length co45)).heap[gb278]? = some (.cells #[.slice Ao45 t273.length co45] 26 (0, 0))) := ⟨by (with_reducible repeat (first | refine blk_drewN ?_ _ | refine blk_drew ?_ | refine blk_alloc ?_ _)); refine blk_put (cs := #[.slice none 0 0]) ?_ 0 _ rfl; (with_reducible repeat (first | refine blk_drewN ?_ _ | refine blk_drew ?_ | refine blk_alloc ?_ _)); exact BK278.out⟩
                have n8_ : Aside0 (Below w.heap.size w (w44.setCell ⟨gb278, 0, none⟩ (.slice Ao45 t273.length co45))) := ⟨by repeat (first | (with_reducible first | exact HB.out | apply below_alloc | apply pw_below_drewN | apply below_drew1 | refine below_set ?_ GE261.out | refine below_set ?_ GE266.out | refine below_set ?_ GE268.out | refine below_set ?_ GE272.out | refine below_set ?_ GE278.out) | exact HB.out)⟩
                (try clear HO_267000)
                (try clear HO271)
                (try clear HO275)
                (try clear BK261)
                (try clear BK266)
                (try clear BK268)
                (try clear BK272)
                (try clear BK278)
                (try clear HB)
                generalize (w44.setCell ⟨gb278, 0, none⟩ (.slice Ao45 t273.length co45)) = w51 at n0_ n1_ n2_ n3_ n4_ n5_ n6_ n7_ n8_ ⊢
                have HO_267000 := n0_
                have HO271 := n1_
                have HO275 := n2_
                have BK261 := n3_
                have BK266 := n4_
                have BK268 := n5_
                have BK272 := n6_
                have BK278 := n7_
                have HB := n8_
                clear n0_ n1_ n2_ n3_ n4_ n5_ n6_ n7_ n8_
                have n0_ := Aside0.mk (Kd.R_drew HO_267000.out)
                have n1_ := Aside0.mk (Kd.R_drew HO271.out)
                have n2_ := Aside0.mk (Kd.R_drew HO275.out)
                have n3_ := Aside0.mk (blk_drew BK261.out)
                have n4_ := Aside0.mk (blk_drew BK266.out)
                have n5_ := Aside0.mk (blk_drew BK268.out)
                have n6_ := Aside0.mk (blk_drew BK272.out)
                have n7_ := Aside0.mk (blk_drew BK278.out)
                have n8_ := Aside0.mk (below_drew1 HB.out)
                clear HO_267000
                clear HO271
                clear HO275
                clear BK261
                clear BK266
                clear BK268
                clear BK272
                clear BK278
                clear HB
                have HO_267000 := n0_
                have HO271 := n1_
                have HO275 := n2_
                have BK261 := n3_
                have BK266 := n4_
                have BK268 := n5_
                have BK272 := n6_
                have BK278 := n7_
                have HB := n8_
                clear n0_ n1_ n2_ n3_ n4_ n5_ n6_ n7_ n8_
                refine start_ (n := 12) (S := fun w' => w'.cell? ⟨gb268, 0, none⟩ = some (.int .i64 ((rd_T36 l1 x22_1).f0)) ∧ w'.cell? ⟨gb268, 1, none⟩ = some (.int .i64 ((rd_T36 l1 x22_1).f1)) ∧ w'.cell? ⟨gb268, 2, none⟩ = some (.int .i64 ((rd_T36 l1 x22_1).f2)) ∧ w'.cell? ⟨gb268, 3, none⟩ = some (.int .i64 ((rd_T36 l1 x22_1).f3)) ∧ w'.cell? ⟨gb268, 4, none⟩ = some (.int .u32 ((rd_T36 l1 x22_1).f4)) ∧ w'.cell? ⟨gb272, 0, none⟩ = some (.slice Ao36 t269.length co36)) (ds := []) #[false, false, false, false, false, false, false, false, false, false, false, false] (by kernel_rfl) rfl rfl ⟨(blk_cell BK268.out 0).trans rfl, (blk_cell BK268.out 1).trans rfl, (blk_cell BK268.out 2).trans rfl, (blk_cell BK268.out 3).trans rfl, (blk_cell BK268.out 4).trans rfl, (blk_cell BK272.out 0).trans rfl⟩ (fun hHeld => ?_); refine with_tabW mainsheetlaw08_PoolDoes.tab10 mainsheetlaw08_PoolDoes.bits10 (fun HT_ HW_ => ?_)
                generalize w51.drew = w52 at HO_267000 HO271 HO275 BK261 BK266 BK268 BK272 BK278 HB hHeld ⊢
                refine take_ (i := 0) (N := some 39) (v := ?_) (a' := ?_) #[true, false, false, false, false, false, false, false, false, false, false, false] rfl rfl (take_ofW HT_.out HW_.out (by kernel_rfl)) (fun _ _ _ h => h) (Or.inl ⟨by rfl, ?_⟩) hHeld ?_ ?_
                rotate_left
                · rintro w' ⟨s0, s1, s2, s3, s4, s5⟩
                  go_simp
                  with_reducible rfl
                rotate_left
                · simp only [Act.put, List.setIfInBounds_toArray, List.set_cons_zero, List.set_cons_succ, i64_w, i32_w]
                  rfl
                refine take_ (i := 1) (N := some 40) (v := ?_) (a' := ?_) #[true, true, false, false, false, false, false, false, false, false, false, false] rfl rfl (take_ofW HT_.out HW_.out (by kernel_rfl)) (fun _ _ _ h => h) (Or.inl ⟨by rfl, ?_⟩) hHeld ?_ ?_
                rotate_left
                · rintro w' ⟨s0, s1, s2, s3, s4, s5⟩
                  go_simp
                  with_reducible rfl
                rotate_left
                · simp only [Act.put, List.setIfInBounds_toArray, List.set_cons_zero, List.set_cons_succ, i64_w, i32_w]
                  rfl
                refine join_ (σ := Value × Value × Nat) 3 #[true, true, true, true, true, true, true, true, true, false, false, false] (fun s_ => [(41, .agg #[s_.1]), (42, .tuple #[.agg #[s_.2.1], .int .i64 t285, .int .i64 t286]), (12, .pointer (some ⟨s_.2.2, 0, none⟩)), (38, .tuple #[.agg #[s_.2.1], .int .i64 t285, .int .i64 t286]), (43, .agg #[s_.2.1]), (44, .int .i64 t285), (45, .int .i64 t286)]) (fun s_ w' => (w'.cell? ⟨gb268, 0, none⟩ = some (.int .i64 ((rd_T36 l1 x22_1).f0)) ∧ w'.cell? ⟨gb268, 1, none⟩ = some (.int .i64 ((rd_T36 l1 x22_1).f1)) ∧ w'.cell? ⟨gb268, 2, none⟩ = some (.int .i64 ((rd_T36 l1 x22_1).f2)) ∧ w'.cell? ⟨gb268, 3, none⟩ = some (.int .i64 ((rd_T36 l1 x22_1).f3)) ∧ w'.cell? ⟨gb268, 4, none⟩ = some (.int .u32 ((rd_T36 l1 x22_1).f4)) ∧ w'.cell? ⟨gb272, 0, none⟩ = some (.slice Ao36 t269.length co36)) ∧ (Kd.R (Kd.int .u32) 31 w' w.heap.size (fun k_ => some k_ ≠ (.slice Ao45 t273.length co45 : Value).ownBlock ∧ some k_ ≠ (s_.1 : Value).ownBlock ∧ some k_ ≠ (s_.2.1 : Value).ownBlock ∧ some k_ ≠ (.slice Ao33 x267000_1.length co33 : Value).ownBlock) (.slice Ao36 t269.length co36) t269) ∧ (Kd.R (Kd.int .u32) 31 w' w.heap.size (fun k_ => some k_ ≠ (.slice Ao36 t269.length co36 : Value).ownBlock ∧ some k_ ≠ (s_.1 : Value).ownBlock ∧ some k_ ≠ (s_.2.1 : Value).ownBlock ∧ some k_ ≠ (.slice Ao33 x267000_1.length co33 : Value).ownBlock) (.slice Ao45 t273.length co45) t273) ∧ (Kd.R (Kd.int .u32) 31 w' w.heap.size (fun k_ => some k_ ≠ (.slice Ao36 t269.length co36 : Value).ownBlock ∧ some k_ ≠ (.slice Ao45 t273.length co45 : Value).ownBlock ∧ some k_ ≠ (s_.2.1 : Value).ownBlock ∧ some k_ ≠ (.slice Ao33 x267000_1.length co33 : Value).ownBlock) s_.1 t279) ∧ (Kd.R (Kd.int .u32) 31 w' w.heap.size (fun k_ => some k_ ≠ (.slice Ao36 t269.length co36 : Value).ownBlock ∧ some k_ ≠ (.slice Ao45 t273.length co45 : Value).ownBlock ∧ some k_ ≠ (s_.1 : Value).ownBlock ∧ some k_ ≠ (.slice Ao33 x267000_1.length co33 : Value).ownBlock) s_.2.1 t282) ∧ (Kd.R (Kd.int .u32) 31 w' w.heap.size (fun k_ => some k_ ≠ (.slice Ao36 t269.length co36 : Value).ownBlock ∧ some k_ ≠ (.slice Ao45 t273.length co45 : Value).ownBlock ∧ some k_ ≠ (s_.1 : Value).ownBlock ∧ some k_ ≠ (s_.2.1 : Value).ownBlock) (.slice Ao33 x267000_1.length co33) x267000_1) ∧ (w'.heap[gb261]? = some (.cells #[.slice A0_0 l0_0.length c0_0] 26 (0, 0))) ∧ (w'.heap[gb266]? = some (.cells #[.slice Ao33 x267000_1.length co33] 26 (0, 0))) ∧ (w'.heap[gb268]? = some (.cells #[.int .i64 ((rd_T36 l1 x22_1).f0), .int .i64 ((rd_T36 l1 x22_1).f1), .int .i64 ((rd_T36 l1 x22_1).f2), .int .i64 ((rd_T36 l1 x22_1).f3), .int .u32 ((rd_T36 l1 x22_1).f4)] 36 (0, 0))) ∧ (w'.heap[gb272]? = some (.cells #[.slice Ao36 t269.length co36] 26 (0, 0))) ∧ (w'.heap[gb278]? = some (.cells #[.slice Ao45 t273.length co45] 26 (0, 0))) ∧ (w'.heap[s_.2.2]? = some (.cells #[.slice none 0 0] 26 (0, 0))) ∧ (w.heap.size ≤ s_.2.2) ∧ (w.heap.size ≤ s_.2.2) ∧ (gb261 ≠ s_.2.2) ∧ (s_.2.2 ≠ gb261) ∧ (gb266 ≠ s_.2.2) ∧ (s_.2.2 ≠ gb266) ∧ (gb268 ≠ s_.2.2) ∧ (s_.2.2 ≠ gb268) ∧ (gb272 ≠ s_.2.2) ∧ (s_.2.2 ≠ gb272) ∧ (gb278 ≠ s_.2.2) ∧ (s_.2.2 ≠ gb278) ∧ (Below w.heap.size w w')) ?_ ?_
                rotate_left
                · intro hCont
                  refine two_ (i := 2) (j := 8) (Ni := some 41) (Nj := some 12) #[true, true, true, false, false, false, false, false, false, false, false, false] #[true, true, false, false, false, false, false, false, true, false, false, false] rfl rfl rfl rfl (two_of HT_.out (by kernel_rfl)) (by decide) (by decide) (fun K hK => ?_) (fun K hK => ?_)
                  · skip
                    refine goes_ Try.func11 (by kernel_rfl) rfl #[.agg #[.slice Ao36 t269.length co36]] (by rfl) rfl rfl (by (try simp only [List.map_toArray, List.map_cons, List.map_nil]); first | done | rfl | (simp only [List.length_drop, List.length_take]; rfl)) ?_
                    with_reducible refine (mainsheetlaw08_short.calls _ _ t269 t279 _ ?side1 ?side2 A24.out).mono ?_
                    (case side1 => repeat (first | exact (Kd.R_reads' HO271.out).2.2 | (with_reducible refine Kd.C_alloc ?_ _) | (with_reducible refine Kd.C_drewN ?_ _) | (with_reducible refine Kd.C_drew ?_)))
                    (case side2 => exact (Kd.R_reads' HO271.out).2.1)
                    rintro e w53 ⟨v280, rfl, ho0, hb⟩
                    refine ⟨_, rfl, ?_⟩
                    have n0_ := Aside0.mk (Kd.R_elder' (by (with_reducible repeat (first | apply Kd.R_alloc | apply Kd.R_drewN | apply Kd.R_drew)); exact HO_267000.out) (Kd.R_base ho0) hb)
                    have n1_ := Aside0.mk (Kd.R_elder' (by (with_reducible repeat (first | apply Kd.R_alloc | apply Kd.R_drewN | apply Kd.R_drew)); exact HO271.out) (Kd.R_base ho0) hb)
                    have n2_ := Aside0.mk (Kd.R_elder' (by (with_reducible repeat (first | apply Kd.R_alloc | apply Kd.R_drewN | apply Kd.R_drew)); exact HO275.out) (Kd.R_base ho0) hb)
                    have n3_ := Aside0.mk (Kd.R_lower (Kd.R_new' (Kd.R_new' (Kd.R_new' ho0 (Kd.R_lt (by (with_reducible repeat (first | apply Kd.R_alloc | apply Kd.R_drewN | apply Kd.R_drew)); exact HO_267000.out))) (Kd.R_lt (by (with_reducible repeat (first | apply Kd.R_alloc | apply Kd.R_drewN | apply Kd.R_drew)); exact HO271.out))) (Kd.R_lt (by (with_reducible repeat (first | apply Kd.R_alloc | apply Kd.R_drewN | apply Kd.R_drew)); exact HO275.out))) (below_size (by repeat (first | (with_reducible first | exact HB.out | apply below_alloc | apply pw_below_drewN | apply below_drew1 | refine below_set ?_ GE261.out | refine below_set ?_ GE266.out | refine below_set ?_ GE268.out | refine below_set ?_ GE272.out | refine below_set ?_ GE278.out) | exact HB.out))))
                    have n4_ := Aside0.mk (blk_below (g := gb261) (o := .cells #[.slice A0_0 l0_0.length c0_0] 26 (0, 0)) (by (with_reducible repeat (first | refine blk_drewN ?_ _ | refine blk_drew ?_ | refine blk_alloc ?_ _)); exact BK261.out) hb)
                    have n5_ := Aside0.mk (blk_below (g := gb266) (o := .cells #[.slice Ao33 x267000_1.length co33] 26 (0, 0)) (by (with_reducible repeat (first | refine blk_drewN ?_ _ | refine blk_drew ?_ | refine blk_alloc ?_ _)); exact BK266.out) hb)
                    have n6_ := Aside0.mk (blk_below (g := gb268) (o := .cells #[.int .i64 ((rd_T36 l1 x22_1).f0), .int .i64 ((rd_T36 l1 x22_1).f1), .int .i64 ((rd_T36 l1 x22_1).f2), .int .i64 ((rd_T36 l1 x22_1).f3), .int .u32 ((rd_T36 l1 x22_1).f4)] 36 (0, 0)) (by (with_reducible repeat (first | refine blk_drewN ?_ _ | refine blk_drew ?_ | refine blk_alloc ?_ _)); exact BK268.out) hb)
                    have n7_ := Aside0.mk (blk_below (g := gb272) (o := .cells #[.slice Ao36 t269.length co36] 26 (0, 0)) (by (with_reducible repeat (first | refine blk_drewN ?_ _ | refine blk_drew ?_ | refine blk_alloc ?_ _)); exact BK272.out) hb)
                    have n8_ := Aside0.mk (blk_below (g := gb278) (o := .cells #[.slice Ao45 t273.length co45] 26 (0, 0)) (by (with_reducible repeat (first | refine blk_drewN ?_ _ | refine blk_drew ?_ | refine blk_alloc ?_ _)); exact BK278.out) hb)
                    have n9_ := Aside0.mk (below_step (by repeat (first | (with_reducible first | exact HB.out | apply below_alloc | apply pw_below_drewN | apply below_drew1 | refine below_set ?_ GE261.out | refine below_set ?_ GE266.out | refine below_set ?_ GE268.out | refine below_set ?_ GE272.out | refine below_set ?_ GE278.out) | exact HB.out)) hb)
                    clear HO_267000
                    clear HO271
                    clear HO275
                    clear BK261
                    clear BK266
                    clear BK268
                    clear BK272
                    clear BK278
                    clear HB
                    have HO_267000 := n0_
                    have HO271 := n1_
                    have HO275 := n2_
                    have HO281 := n3_
                    have BK261 := n4_
                    have BK266 := n5_
                    have BK268 := n6_
                    have BK272 := n7_
                    have BK278 := n8_
                    have HB := n9_
                    clear n0_ n1_ n2_ n3_ n4_ n5_ n6_ n7_ n8_ n9_
                    (try clear hb)
                    (try clear hb2)
                    (try clear hk)
                    (try clear hi)
                    (try clear ho0)
                    obtain ⟨Ao54, co54, eo54⟩ := Kd.R_slice HO281.out
                    (first | subst eo54 | (injection eo54 with f1_ f2_ f3_; have f4_ := f1_.symm; have f5_ := f3_.symm; clear f1_ f2_ f3_; subst f4_; subst f5_))
                    refine hK.out _ _ ⟨(blk_cell BK268.out 0).trans rfl, (blk_cell BK268.out 1).trans rfl, (blk_cell BK268.out 2).trans rfl, (blk_cell BK268.out 3).trans rfl, (blk_cell BK268.out 4).trans rfl, (blk_cell BK272.out 0).trans rfl⟩ (fun hHeld => ?_)
                    clear hK K
                    refine norm_ (a' := ?_) ?_ ?_
                    rotate_left
                    · show Act.put _ (some 41) _ = _
                      simp only [Act.put, List.setIfInBounds_toArray, List.set_cons_zero, List.set_cons_succ, i64_w, i32_w]
                      rfl
                    refine two_ (i := 3) (j := 8) (Ni := some 42) (Nj := some 12) #[true, true, true, true, false, false, false, false, false, false, false, false] #[true, true, true, false, false, false, false, false, true, false, false, false] rfl rfl rfl rfl (two_of HT_.out (by kernel_rfl)) (by decide) (by decide) (fun K hK => ?_) (fun K hK => ?_)
                    · skip
                      refine goes_ Try.func13 (by kernel_rfl) rfl #[.agg #[.int .i64 ((rd_T36 l1 x22_1).f0), .int .i64 ((rd_T36 l1 x22_1).f1), .int .i64 ((rd_T36 l1 x22_1).f2), .int .i64 ((rd_T36 l1 x22_1).f3), .int .u32 ((rd_T36 l1 x22_1).f4)], .agg #[.slice Ao54 t279.length co54]] (by rfl) rfl rfl (by (try simp only [List.map_toArray, List.map_cons, List.map_nil]); first | done | rfl | (simp only [List.length_drop, List.length_take]; rfl)) ?_
                      with_reducible refine (mainsheetlaw08_Op_wants.calls k1 ((rd_T36 l1 x22_1).f0) ((rd_T36 l1 x22_1).f1) ((rd_T36 l1 x22_1).f2) ((rd_T36 l1 x22_1).f3) ((rd_T36 l1 x22_1).f4) _ _ t279 t282 t285 t286 _ ?side1 ?side2 A25.out).mono ?_
                      (case side1 => repeat (first | exact (Kd.R_reads' HO281.out).2.2 | (with_reducible refine Kd.C_alloc ?_ _) | (with_reducible refine Kd.C_drewN ?_ _) | (with_reducible refine Kd.C_drew ?_)))
                      (case side2 => exact (Kd.R_reads' HO281.out).2.1)
                      rintro e w55 ⟨v283, rfl, ho0, hb⟩
                      refine ⟨_, rfl, ?_⟩
                      have n0_ := Aside0.mk (Kd.R_elder' (by (with_reducible repeat (first | apply Kd.R_alloc | apply Kd.R_drewN | apply Kd.R_drew)); exact HO_267000.out) (Kd.R_base ho0) hb)
                      have n1_ := Aside0.mk (Kd.R_elder' (by (with_reducible repeat (first | apply Kd.R_alloc | apply Kd.R_drewN | apply Kd.R_drew)); exact HO271.out) (Kd.R_base ho0) hb)
                      have n2_ := Aside0.mk (Kd.R_elder' (by (with_reducible repeat (first | apply Kd.R_alloc | apply Kd.R_drewN | apply Kd.R_drew)); exact HO275.out) (Kd.R_base ho0) hb)
                      have n3_ := Aside0.mk (Kd.R_elder' (by (with_reducible repeat (first | apply Kd.R_alloc | apply Kd.R_drewN | apply Kd.R_drew)); exact HO281.out) (Kd.R_base ho0) hb)
                      have n4_ := Aside0.mk (Kd.R_lower (Kd.R_new' (Kd.R_new' (Kd.R_new' (Kd.R_new' ho0 (Kd.R_lt (by (with_reducible repeat (first | apply Kd.R_alloc | apply Kd.R_drewN | apply Kd.R_drew)); exact HO_267000.out))) (Kd.R_lt (by (with_reducible repeat (first | apply Kd.R_alloc | apply Kd.R_drewN | apply Kd.R_drew)); exact HO271.out))) (Kd.R_lt (by (with_reducible repeat (first | apply Kd.R_alloc | apply Kd.R_drewN | apply Kd.R_drew)); exact HO275.out))) (Kd.R_lt (by (with_reducible repeat (first | apply Kd.R_alloc | apply Kd.R_drewN | apply Kd.R_drew)); exact HO281.out))) (below_size (by repeat (first | (with_reducible first | exact HB.out | apply below_alloc | apply pw_below_drewN | apply below_drew1 | refine below_set ?_ GE261.out | refine below_set ?_ GE266.out | refine below_set ?_ GE268.out | refine below_set ?_ GE272.out | refine below_set ?_ GE278.out) | exact HB.out))))
                      have n5_ := Aside0.mk (blk_below (g := gb261) (o := .cells #[.slice A0_0 l0_0.length c0_0] 26 (0, 0)) (by (with_reducible repeat (first | refine blk_drewN ?_ _ | refine blk_drew ?_ | refine blk_alloc ?_ _)); exact BK261.out) hb)
                      have n6_ := Aside0.mk (blk_below (g := gb266) (o := .cells #[.slice Ao33 x267000_1.length co33] 26 (0, 0)) (by (with_reducible repeat (first | refine blk_drewN ?_ _ | refine blk_drew ?_ | refine blk_alloc ?_ _)); exact BK266.out) hb)
                      have n7_ := Aside0.mk (blk_below (g := gb268) (o := .cells #[.int .i64 ((rd_T36 l1 x22_1).f0), .int .i64 ((rd_T36 l1 x22_1).f1), .int .i64 ((rd_T36 l1 x22_1).f2), .int .i64 ((rd_T36 l1 x22_1).f3), .int .u32 ((rd_T36 l1 x22_1).f4)] 36 (0, 0)) (by (with_reducible repeat (first | refine blk_drewN ?_ _ | refine blk_drew ?_ | refine blk_alloc ?_ _)); exact BK268.out) hb)
                      have n8_ := Aside0.mk (blk_below (g := gb272) (o := .cells #[.slice Ao36 t269.length co36] 26 (0, 0)) (by (with_reducible repeat (first | refine blk_drewN ?_ _ | refine blk_drew ?_ | refine blk_alloc ?_ _)); exact BK272.out) hb)
                      have n9_ := Aside0.mk (blk_below (g := gb278) (o := .cells #[.slice Ao45 t273.length co45] 26 (0, 0)) (by (with_reducible repeat (first | refine blk_drewN ?_ _ | refine blk_drew ?_ | refine blk_alloc ?_ _)); exact BK278.out) hb)
                      have n10_ := Aside0.mk (below_step (by repeat (first | (with_reducible first | exact HB.out | apply below_alloc | apply pw_below_drewN | apply below_drew1 | refine below_set ?_ GE261.out | refine below_set ?_ GE266.out | refine below_set ?_ GE268.out | refine below_set ?_ GE272.out | refine below_set ?_ GE278.out) | exact HB.out)) hb)
                      clear HO_267000
                      clear HO271
                      clear HO275
                      clear HO281
                      clear BK261
                      clear BK266
                      clear BK268
                      clear BK272
                      clear BK278
                      clear HB
                      have HO_267000 := n0_
                      have HO271 := n1_
                      have HO275 := n2_
                      have HO281 := n3_
                      have HO284 := n4_
                      have BK261 := n5_
                      have BK266 := n6_
                      have BK268 := n7_
                      have BK272 := n8_
                      have BK278 := n9_
                      have HB := n10_
                      clear n0_ n1_ n2_ n3_ n4_ n5_ n6_ n7_ n8_ n9_ n10_
                      (try clear hb)
                      (try clear hb2)
                      (try clear hk)
                      (try clear hi)
                      (try clear ho0)
                      refine hK.out _ _ ⟨(blk_cell BK268.out 0).trans rfl, (blk_cell BK268.out 1).trans rfl, (blk_cell BK268.out 2).trans rfl, (blk_cell BK268.out 3).trans rfl, (blk_cell BK268.out 4).trans rfl, (blk_cell BK272.out 0).trans rfl⟩ (fun hHeld => ?_)
                      clear hK K
                      refine norm_ (a' := ?_) ?_ ?_
                      rotate_left
                      · show Act.put _ (some 42) _ = _
                        simp only [Act.put, List.setIfInBounds_toArray, List.set_cons_zero, List.set_cons_succ, i64_w, i32_w]
                        rfl
                      refine pure_ (i := 4) (N := some 38) (v := ?_) (a' := ?_) #[true, true, true, true, true, false, false, false, false, false, false, false] rfl rfl (any_of HT_.out (by kernel_rfl)) (fun _ _ _ h => h) (Or.inl ⟨by rfl, ?_⟩) ?_ ?_
                      rotate_left
                      · intro w'
                        go_simp
                        with_reducible rfl
                      rotate_left
                      · simp only [Act.put, List.setIfInBounds_toArray, List.set_cons_zero, List.set_cons_succ, i64_w, i32_w]
                        rfl
                      refine pure_ (i := 5) (N := some 43) (v := ?_) (a' := ?_) #[true, true, true, true, true, true, false, false, false, false, false, false] rfl rfl (any_of HT_.out (by kernel_rfl)) (fun _ _ _ h => h) (Or.inl ⟨by rfl, ?_⟩) ?_ ?_
                      rotate_left
                      · intro w'
                        go_simp
                        with_reducible rfl
                      rotate_left
                      · simp only [Act.put, List.setIfInBounds_toArray, List.set_cons_zero, List.set_cons_succ, i64_w, i32_w]
                        rfl
                      refine pure_ (i := 6) (N := some 44) (v := ?_) (a' := ?_) #[true, true, true, true, true, true, true, false, false, false, false, false] rfl rfl (any_of HT_.out (by kernel_rfl)) (fun _ _ _ h => h) (Or.inl ⟨by rfl, ?_⟩) ?_ ?_
                      rotate_left
                      · intro w'
                        go_simp
                        with_reducible rfl
                      rotate_left
                      · simp only [Act.put, List.setIfInBounds_toArray, List.set_cons_zero, List.set_cons_succ, i64_w, i32_w]
                        rfl
                      refine pure_ (i := 7) (N := some 45) (v := ?_) (a' := ?_) #[true, true, true, true, true, true, true, true, false, false, false, false] rfl rfl (any_of HT_.out (by kernel_rfl)) (fun _ _ _ h => h) (Or.inl ⟨by rfl, ?_⟩) ?_ ?_
                      rotate_left
                      · intro w'
                        go_simp
                        with_reducible rfl
                      rotate_left
                      · simp only [Act.put, List.setIfInBounds_toArray, List.set_cons_zero, List.set_cons_succ, i64_w, i32_w]
                        rfl
                      refine one_ (i := 8) (N := some 12) #[true, true, true, true, true, true, true, true, true, false, false, false] rfl rfl (one_of HT_.out (by kernel_rfl)) (by decide) (fun K hK => ?_)
                      refine box_step ?hg (N := 12) ?hd (cs := #[.slice none 0 0]) (t := 26) ?hr ?_; (case hd => rfl); (case hg => rfl); (case hr => first | (go_simp; done) | (go_simp; rfl))
                      intro gb287 hg w56 hbox hb
                      have n0_ := Aside0.mk (Kd.R_below (by (with_reducible repeat (first | apply Kd.R_alloc | apply Kd.R_drewN | apply Kd.R_drew)); exact HO_267000.out) hb)
                      have n1_ := Aside0.mk (Kd.R_below (by (with_reducible repeat (first | apply Kd.R_alloc | apply Kd.R_drewN | apply Kd.R_drew)); exact HO271.out) hb)
                      have n2_ := Aside0.mk (Kd.R_below (by (with_reducible repeat (first | apply Kd.R_alloc | apply Kd.R_drewN | apply Kd.R_drew)); exact HO275.out) hb)
                      have n3_ := Aside0.mk (Kd.R_below (by (with_reducible repeat (first | apply Kd.R_alloc | apply Kd.R_drewN | apply Kd.R_drew)); exact HO281.out) hb)
                      have n4_ := Aside0.mk (Kd.R_below (by (with_reducible repeat (first | apply Kd.R_alloc | apply Kd.R_drewN | apply Kd.R_drew)); exact HO284.out) hb)
                      have n5_ := Aside0.mk (blk_below (g := gb261) (o := .cells #[.slice A0_0 l0_0.length c0_0] 26 (0, 0)) (by (with_reducible repeat (first | refine blk_drewN ?_ _ | refine blk_drew ?_ | refine blk_alloc ?_ _)); exact BK261.out) hb)
                      have n6_ := Aside0.mk (blk_below (g := gb266) (o := .cells #[.slice Ao33 x267000_1.length co33] 26 (0, 0)) (by (with_reducible repeat (first | refine blk_drewN ?_ _ | refine blk_drew ?_ | refine blk_alloc ?_ _)); exact BK266.out) hb)
                      have n7_ := Aside0.mk (blk_below (g := gb268) (o := .cells #[.int .i64 ((rd_T36 l1 x22_1).f0), .int .i64 ((rd_T36 l1 x22_1).f1), .int .i64 ((rd_T36 l1 x22_1).f2), .int .i64 ((rd_T36 l1 x22_1).f3), .int .u32 ((rd_T36 l1 x22_1).f4)] 36 (0, 0)) (by (with_reducible repeat (first | refine blk_drewN ?_ _ | refine blk_drew ?_ | refine blk_alloc ?_ _)); exact BK268.out) hb)
                      have n8_ := Aside0.mk (blk_below (g := gb272) (o := .cells #[.slice Ao36 t269.length co36] 26 (0, 0)) (by (with_reducible repeat (first | refine blk_drewN ?_ _ | refine blk_drew ?_ | refine blk_alloc ?_ _)); exact BK272.out) hb)
                      have n9_ := Aside0.mk (blk_below (g := gb278) (o := .cells #[.slice Ao45 t273.length co45] 26 (0, 0)) (by (with_reducible repeat (first | refine blk_drewN ?_ _ | refine blk_drew ?_ | refine blk_alloc ?_ _)); exact BK278.out) hb)
                      have n10_ := Aside0.mk (below_step (by repeat (first | (with_reducible first | exact HB.out | apply below_alloc | apply pw_below_drewN | apply below_drew1 | refine below_set ?_ GE261.out | refine below_set ?_ GE266.out | refine below_set ?_ GE268.out | refine below_set ?_ GE272.out | refine below_set ?_ GE278.out) | exact HB.out)) hb)
                      have n11_ := Aside0.mk (hbox)
                      have n12_ := Aside0.mk ((by rw [hg]; exact (below_size (by repeat (first | (with_reducible first | exact HB.out | apply below_alloc | apply pw_below_drewN | apply below_drew1 | refine below_set ?_ GE261.out | refine below_set ?_ GE266.out | refine below_set ?_ GE268.out | refine below_set ?_ GE272.out | refine below_set ?_ GE278.out) | exact HB.out))) : w.heap.size ≤ gb287))
                      have n13_ := Aside0.mk ((by rw [hg]; exact (below_size (by repeat (first | (with_reducible first | exact HB.out | apply below_alloc | apply pw_below_drewN | apply below_drew1 | refine below_set ?_ GE261.out | refine below_set ?_ GE266.out | refine below_set ?_ GE268.out | refine below_set ?_ GE272.out | refine below_set ?_ GE278.out) | exact HB.out))) : w.heap.size ≤ gb287))
                      have n14_ := Aside0.mk ((by rw [hg]; exact Nat.ne_of_lt (blk_lt (g := gb261) (o := .cells #[.slice A0_0 l0_0.length c0_0] 26 (0, 0)) (by (with_reducible repeat (first | refine blk_drewN ?_ _ | refine blk_drew ?_ | refine blk_alloc ?_ _)); exact BK261.out)) : gb261 ≠ gb287))
                      have n15_ := Aside0.mk ((by rw [hg]; exact Nat.ne_of_gt (blk_lt (g := gb261) (o := .cells #[.slice A0_0 l0_0.length c0_0] 26 (0, 0)) (by (with_reducible repeat (first | refine blk_drewN ?_ _ | refine blk_drew ?_ | refine blk_alloc ?_ _)); exact BK261.out)) : gb287 ≠ gb261))
                      have n16_ := Aside0.mk ((by rw [hg]; exact Nat.ne_of_lt (blk_lt (g := gb266) (o := .cells #[.slice Ao33 x267000_1.length co33] 26 (0, 0)) (by (with_reducible repeat (first | refine blk_drewN ?_ _ | refine blk_drew ?_ | refine blk_alloc ?_ _)); exact BK266.out)) : gb266 ≠ gb287))
                      have n17_ := Aside0.mk ((by rw [hg]; exact Nat.ne_of_gt (blk_lt (g := gb266) (o := .cells #[.slice Ao33 x267000_1.length co33] 26 (0, 0)) (by (with_reducible repeat (first | refine blk_drewN ?_ _ | refine blk_drew ?_ | refine blk_alloc ?_ _)); exact BK266.out)) : gb287 ≠ gb266))
                      have n18_ := Aside0.mk ((by rw [hg]; exact Nat.ne_of_lt (blk_lt (g := gb268) (o := .cells #[.int .i64 ((rd_T36 l1 x22_1).f0), .int .i64 ((rd_T36 l1 x22_1).f1), .int .i64 ((rd_T36 l1 x22_1).f2), .int .i64 ((rd_T36 l1 x22_1).f3), .int .u32 ((rd_T36 l1 x22_1).f4)] 36 (0, 0)) (by (with_reducible repeat (first | refine blk_drewN ?_ _ | refine blk_drew ?_ | refine blk_alloc ?_ _)); exact BK268.out)) : gb268 ≠ gb287))
                      have n19_ := Aside0.mk ((by rw [hg]; exact Nat.ne_of_gt (blk_lt (g := gb268) (o := .cells #[.int .i64 ((rd_T36 l1 x22_1).f0), .int .i64 ((rd_T36 l1 x22_1).f1), .int .i64 ((rd_T36 l1 x22_1).f2), .int .i64 ((rd_T36 l1 x22_1).f3), .int .u32 ((rd_T36 l1 x22_1).f4)] 36 (0, 0)) (by (with_reducible repeat (first | refine blk_drewN ?_ _ | refine blk_drew ?_ | refine blk_alloc ?_ _)); exact BK268.out)) : gb287 ≠ gb268))
                      have n20_ := Aside0.mk ((by rw [hg]; exact Nat.ne_of_lt (blk_lt (g := gb272) (o := .cells #[.slice Ao36 t269.length co36] 26 (0, 0)) (by (with_reducible repeat (first | refine blk_drewN ?_ _ | refine blk_drew ?_ | refine blk_alloc ?_ _)); exact BK272.out)) : gb272 ≠ gb287))
                      have n21_ := Aside0.mk ((by rw [hg]; exact Nat.ne_of_gt (blk_lt (g := gb272) (o := .cells #[.slice Ao36 t269.length co36] 26 (0, 0)) (by (with_reducible repeat (first | refine blk_drewN ?_ _ | refine blk_drew ?_ | refine blk_alloc ?_ _)); exact BK272.out)) : gb287 ≠ gb272))
                      have n22_ := Aside0.mk ((by rw [hg]; exact Nat.ne_of_lt (blk_lt (g := gb278) (o := .cells #[.slice Ao45 t273.length co45] 26 (0, 0)) (by (with_reducible repeat (first | refine blk_drewN ?_ _ | refine blk_drew ?_ | refine blk_alloc ?_ _)); exact BK278.out)) : gb278 ≠ gb287))
                      have n23_ := Aside0.mk ((by rw [hg]; exact Nat.ne_of_gt (blk_lt (g := gb278) (o := .cells #[.slice Ao45 t273.length co45] 26 (0, 0)) (by (with_reducible repeat (first | refine blk_drewN ?_ _ | refine blk_drew ?_ | refine blk_alloc ?_ _)); exact BK278.out)) : gb287 ≠ gb278))
                      clear HO_267000
                      clear HO271
                      clear HO275
                      clear HO281
                      clear HO284
                      clear BK261
                      clear BK266
                      clear BK268
                      clear BK272
                      clear BK278
                      clear HB
                      have HO_267000 := n0_
                      have HO271 := n1_
                      have HO275 := n2_
                      have HO281 := n3_
                      have HO284 := n4_
                      have BK261 := n5_
                      have BK266 := n6_
                      have BK268 := n7_
                      have BK272 := n8_
                      have BK278 := n9_
                      have HB := n10_
                      have BK287 := n11_
                      have GW287 := n12_
                      have GE287 := n13_
                      have NB261_287 := n14_
                      have NB287_261 := n15_
                      have NB266_287 := n16_
                      have NB287_266 := n17_
                      have NB268_287 := n18_
                      have NB287_268 := n19_
                      have NB272_287 := n20_
                      have NB287_272 := n21_
                      have NB278_287 := n22_
                      have NB287_278 := n23_
                      clear n0_ n1_ n2_ n3_ n4_ n5_ n6_ n7_ n8_ n9_ n10_ n11_ n12_ n13_ n14_ n15_ n16_ n17_ n18_ n19_ n20_ n21_ n22_ n23_
                      clear hb hbox hg
                      refine hK.out _ _ ⟨(blk_cell BK268.out 0).trans rfl, (blk_cell BK268.out 1).trans rfl, (blk_cell BK268.out 2).trans rfl, (blk_cell BK268.out 3).trans rfl, (blk_cell BK268.out 4).trans rfl, (blk_cell BK272.out 0).trans rfl⟩ (fun hHeld => ?_)
                      clear hK K
                      refine norm_ (a' := ?_) ?_ ?_
                      rotate_left
                      · show Act.put _ (some 12) _ = _
                        simp only [Act.put, List.setIfInBounds_toArray, List.set_cons_zero, List.set_cons_succ, i64_w, i32_w]
                        rfl
                      exact norm_ (by simp only [putAll, Act.put, List.setIfInBounds_toArray, List.set_cons_zero, List.set_cons_succ]) (hCont (.slice Ao54 t279.length co54, v283, gb287) _ ⟨hHeld, (by (with_reducible repeat (first | apply Kd.R_alloc | apply Kd.R_drewN | apply Kd.R_drew)); exact Kd.R_mono HO271.out (fun _ hk => ⟨hk.1.1.2, ⟨hk.1.2, ⟨hk.2, hk.1.1.1⟩⟩⟩)), (by (with_reducible repeat (first | apply Kd.R_alloc | apply Kd.R_drewN | apply Kd.R_drew)); exact Kd.R_mono HO275.out (fun _ hk => ⟨hk.1.1.2, ⟨hk.1.2, ⟨hk.2, hk.1.1.1⟩⟩⟩)), (by (with_reducible repeat (first | apply Kd.R_alloc | apply Kd.R_drewN | apply Kd.R_drew)); exact Kd.R_mono HO281.out (fun _ hk => ⟨hk.1.1.2, ⟨hk.1.2, ⟨hk.2, hk.1.1.1.2⟩⟩⟩)), (by (with_reducible repeat (first | apply Kd.R_alloc | apply Kd.R_drewN | apply Kd.R_drew)); exact Kd.R_mono HO284.out (fun _ hk => ⟨hk.1.1.2, ⟨hk.1.2, ⟨hk.2, hk.1.1.1.2⟩⟩⟩)), (by (with_reducible repeat (first | apply Kd.R_alloc | apply Kd.R_drewN | apply Kd.R_drew)); exact Kd.R_mono HO_267000.out (fun _ hk => ⟨hk.1.1.1, ⟨hk.1.1.2, ⟨hk.1.2, hk.2⟩⟩⟩)), (by (with_reducible repeat (first | refine blk_drewN ?_ _ | refine blk_drew ?_ | refine blk_alloc ?_ _)); exact BK261.out), (by (with_reducible repeat (first | refine blk_drewN ?_ _ | refine blk_drew ?_ | refine blk_alloc ?_ _)); exact BK266.out), (by (with_reducible repeat (first | refine blk_drewN ?_ _ | refine blk_drew ?_ | refine blk_alloc ?_ _)); exact BK268.out), (by (with_reducible repeat (first | refine blk_drewN ?_ _ | refine blk_drew ?_ | refine blk_alloc ?_ _)); exact BK272.out), (by (with_reducible repeat (first | refine blk_drewN ?_ _ | refine blk_drew ?_ | refine blk_alloc ?_ _)); exact BK278.out), (by (with_reducible repeat (first | refine blk_drewN ?_ _ | refine blk_drew ?_ | refine blk_alloc ?_ _)); exact BK287.out), GW287.out, GE287.out, NB261_287.out, NB287_261.out, NB266_287.out, NB287_266.out, NB268_287.out, NB287_268.out, NB272_287.out, NB287_272.out, NB278_287.out, NB287_278.out, (by repeat (first | (with_reducible first | exact HB.out | apply below_alloc | apply pw_below_drewN | apply below_drew1 | refine below_set ?_ GE261.out | refine below_set ?_ GE266.out | refine below_set ?_ GE268.out | refine below_set ?_ GE272.out | refine below_set ?_ GE278.out | refine below_set ?_ GE287.out) | exact HB.out))⟩)
                    · skip
                      refine box_step ?hg (N := 12) ?hd (cs := #[.slice none 0 0]) (t := 26) ?hr ?_; (case hd => rfl); (case hg => rfl); (case hr => first | (go_simp; done) | (go_simp; rfl))
                      intro gb287 hg w54 hbox hb
                      have n0_ := Aside0.mk (Kd.R_below (by (with_reducible repeat (first | apply Kd.R_alloc | apply Kd.R_drewN | apply Kd.R_drew)); exact HO_267000.out) hb)
                      have n1_ := Aside0.mk (Kd.R_below (by (with_reducible repeat (first | apply Kd.R_alloc | apply Kd.R_drewN | apply Kd.R_drew)); exact HO271.out) hb)
                      have n2_ := Aside0.mk (Kd.R_below (by (with_reducible repeat (first | apply Kd.R_alloc | apply Kd.R_drewN | apply Kd.R_drew)); exact HO275.out) hb)
                      have n3_ := Aside0.mk (Kd.R_below (by (with_reducible repeat (first | apply Kd.R_alloc | apply Kd.R_drewN | apply Kd.R_drew)); exact HO281.out) hb)
                      have n4_ := Aside0.mk (blk_below (g := gb261) (o := .cells #[.slice A0_0 l0_0.length c0_0] 26 (0, 0)) (by (with_reducible repeat (first | refine blk_drewN ?_ _ | refine blk_drew ?_ | refine blk_alloc ?_ _)); exact BK261.out) hb)
                      have n5_ := Aside0.mk (blk_below (g := gb266) (o := .cells #[.slice Ao33 x267000_1.length co33] 26 (0, 0)) (by (with_reducible repeat (first | refine blk_drewN ?_ _ | refine blk_drew ?_ | refine blk_alloc ?_ _)); exact BK266.out) hb)
                      have n6_ := Aside0.mk (blk_below (g := gb268) (o := .cells #[.int .i64 ((rd_T36 l1 x22_1).f0), .int .i64 ((rd_T36 l1 x22_1).f1), .int .i64 ((rd_T36 l1 x22_1).f2), .int .i64 ((rd_T36 l1 x22_1).f3), .int .u32 ((rd_T36 l1 x22_1).f4)] 36 (0, 0)) (by (with_reducible repeat (first | refine blk_drewN ?_ _ | refine blk_drew ?_ | refine blk_alloc ?_ _)); exact BK268.out) hb)
                      have n7_ := Aside0.mk (blk_below (g := gb272) (o := .cells #[.slice Ao36 t269.length co36] 26 (0, 0)) (by (with_reducible repeat (first | refine blk_drewN ?_ _ | refine blk_drew ?_ | refine blk_alloc ?_ _)); exact BK272.out) hb)
                      have n8_ := Aside0.mk (blk_below (g := gb278) (o := .cells #[.slice Ao45 t273.length co45] 26 (0, 0)) (by (with_reducible repeat (first | refine blk_drewN ?_ _ | refine blk_drew ?_ | refine blk_alloc ?_ _)); exact BK278.out) hb)
                      have n9_ := Aside0.mk (below_step (by repeat (first | (with_reducible first | exact HB.out | apply below_alloc | apply pw_below_drewN | apply below_drew1 | refine below_set ?_ GE261.out | refine below_set ?_ GE266.out | refine below_set ?_ GE268.out | refine below_set ?_ GE272.out | refine below_set ?_ GE278.out) | exact HB.out)) hb)
                      have n10_ := Aside0.mk (hbox)
                      have n11_ := Aside0.mk ((by rw [hg]; exact (below_size (by repeat (first | (with_reducible first | exact HB.out | apply below_alloc | apply pw_below_drewN | apply below_drew1 | refine below_set ?_ GE261.out | refine below_set ?_ GE266.out | refine below_set ?_ GE268.out | refine below_set ?_ GE272.out | refine below_set ?_ GE278.out) | exact HB.out))) : w.heap.size ≤ gb287))
                      have n12_ := Aside0.mk ((by rw [hg]; exact (below_size (by repeat (first | (with_reducible first | exact HB.out | apply below_alloc | apply pw_below_drewN | apply below_drew1 | refine below_set ?_ GE261.out | refine below_set ?_ GE266.out | refine below_set ?_ GE268.out | refine below_set ?_ GE272.out | refine below_set ?_ GE278.out) | exact HB.out))) : w.heap.size ≤ gb287))
                      have n13_ := Aside0.mk ((by rw [hg]; exact Nat.ne_of_lt (blk_lt (g := gb261) (o := .cells #[.slice A0_0 l0_0.length c0_0] 26 (0, 0)) (by (with_reducible repeat (first | refine blk_drewN ?_ _ | refine blk_drew ?_ | refine blk_alloc ?_ _)); exact BK261.out)) : gb261 ≠ gb287))
                      have n14_ := Aside0.mk ((by rw [hg]; exact Nat.ne_of_gt (blk_lt (g := gb261) (o := .cells #[.slice A0_0 l0_0.length c0_0] 26 (0, 0)) (by (with_reducible repeat (first | refine blk_drewN ?_ _ | refine blk_drew ?_ | refine blk_alloc ?_ _)); exact BK261.out)) : gb287 ≠ gb261))
                      have n15_ := Aside0.mk ((by rw [hg]; exact Nat.ne_of_lt (blk_lt (g := gb266) (o := .cells #[.slice Ao33 x267000_1.length co33] 26 (0, 0)) (by (with_reducible repeat (first | refine blk_drewN ?_ _ | refine blk_drew ?_ | refine blk_alloc ?_ _)); exact BK266.out)) : gb266 ≠ gb287))
                      have n16_ := Aside0.mk ((by rw [hg]; exact Nat.ne_of_gt (blk_lt (g := gb266) (o := .cells #[.slice Ao33 x267000_1.length co33] 26 (0, 0)) (by (with_reducible repeat (first | refine blk_drewN ?_ _ | refine blk_drew ?_ | refine blk_alloc ?_ _)); exact BK266.out)) : gb287 ≠ gb266))
                      have n17_ := Aside0.mk ((by rw [hg]; exact Nat.ne_of_lt (blk_lt (g := gb268) (o := .cells #[.int .i64 ((rd_T36 l1 x22_1).f0), .int .i64 ((rd_T36 l1 x22_1).f1), .int .i64 ((rd_T36 l1 x22_1).f2), .int .i64 ((rd_T36 l1 x22_1).f3), .int .u32 ((rd_T36 l1 x22_1).f4)] 36 (0, 0)) (by (with_reducible repeat (first | refine blk_drewN ?_ _ | refine blk_drew ?_ | refine blk_alloc ?_ _)); exact BK268.out)) : gb268 ≠ gb287))
                      have n18_ := Aside0.mk ((by rw [hg]; exact Nat.ne_of_gt (blk_lt (g := gb268) (o := .cells #[.int .i64 ((rd_T36 l1 x22_1).f0), .int .i64 ((rd_T36 l1 x22_1).f1), .int .i64 ((rd_T36 l1 x22_1).f2), .int .i64 ((rd_T36 l1 x22_1).f3), .int .u32 ((rd_T36 l1 x22_1).f4)] 36 (0, 0)) (by (with_reducible repeat (first | refine blk_drewN ?_ _ | refine blk_drew ?_ | refine blk_alloc ?_ _)); exact BK268.out)) : gb287 ≠ gb268))
                      have n19_ := Aside0.mk ((by rw [hg]; exact Nat.ne_of_lt (blk_lt (g := gb272) (o := .cells #[.slice Ao36 t269.length co36] 26 (0, 0)) (by (with_reducible repeat (first | refine blk_drewN ?_ _ | refine blk_drew ?_ | refine blk_alloc ?_ _)); exact BK272.out)) : gb272 ≠ gb287))
                      have n20_ := Aside0.mk ((by rw [hg]; exact Nat.ne_of_gt (blk_lt (g := gb272) (o := .cells #[.slice Ao36 t269.length co36] 26 (0, 0)) (by (with_reducible repeat (first | refine blk_drewN ?_ _ | refine blk_drew ?_ | refine blk_alloc ?_ _)); exact BK272.out)) : gb287 ≠ gb272))
                      have n21_ := Aside0.mk ((by rw [hg]; exact Nat.ne_of_lt (blk_lt (g := gb278) (o := .cells #[.slice Ao45 t273.length co45] 26 (0, 0)) (by (with_reducible repeat (first | refine blk_drewN ?_ _ | refine blk_drew ?_ | refine blk_alloc ?_ _)); exact BK278.out)) : gb278 ≠ gb287))
                      have n22_ := Aside0.mk ((by rw [hg]; exact Nat.ne_of_gt (blk_lt (g := gb278) (o := .cells #[.slice Ao45 t273.length co45] 26 (0, 0)) (by (with_reducible repeat (first | refine blk_drewN ?_ _ | refine blk_drew ?_ | refine blk_alloc ?_ _)); exact BK278.out)) : gb287 ≠ gb278))
                      clear HO_267000
                      clear HO271
                      clear HO275
                      clear HO281
                      clear BK261
                      clear BK266
                      clear BK268
                      clear BK272
                      clear BK278
                      clear HB
                      have HO_267000 := n0_
                      have HO271 := n1_
                      have HO275 := n2_
                      have HO281 := n3_
                      have BK261 := n4_
                      have BK266 := n5_
                      have BK268 := n6_
                      have BK272 := n7_
                      have BK278 := n8_
                      have HB := n9_
                      have BK287 := n10_
                      have GW287 := n11_
                      have GE287 := n12_
                      have NB261_287 := n13_
                      have NB287_261 := n14_
                      have NB266_287 := n15_
                      have NB287_266 := n16_
                      have NB268_287 := n17_
                      have NB287_268 := n18_
                      have NB272_287 := n19_
                      have NB287_272 := n20_
                      have NB278_287 := n21_
                      have NB287_278 := n22_
                      clear n0_ n1_ n2_ n3_ n4_ n5_ n6_ n7_ n8_ n9_ n10_ n11_ n12_ n13_ n14_ n15_ n16_ n17_ n18_ n19_ n20_ n21_ n22_
                      clear hb hbox hg
                      obtain ⟨Ao55, co55, eo55⟩ := Kd.R_slice HO281.out
                      (first | subst eo55 | (injection eo55 with f1_ f2_ f3_; have f4_ := f1_.symm; have f5_ := f3_.symm; clear f1_ f2_ f3_; subst f4_; subst f5_))
                      refine hK.out _ _ ⟨(blk_cell BK268.out 0).trans rfl, (blk_cell BK268.out 1).trans rfl, (blk_cell BK268.out 2).trans rfl, (blk_cell BK268.out 3).trans rfl, (blk_cell BK268.out 4).trans rfl, (blk_cell BK272.out 0).trans rfl⟩ (fun hHeld => ?_)
                      clear hK K
                      refine norm_ (a' := ?_) ?_ ?_
                      rotate_left
                      · show Act.put _ (some 12) _ = _
                        simp only [Act.put, List.setIfInBounds_toArray, List.set_cons_zero, List.set_cons_succ, i64_w, i32_w]
                        rfl
                      refine one_ (i := 3) (N := some 42) #[true, true, true, true, false, false, false, false, true, false, false, false] rfl rfl (one_of HT_.out (by kernel_rfl)) (by decide) (fun K hK => ?_)
                      refine goes_ Try.func13 (by kernel_rfl) rfl #[.agg #[.int .i64 ((rd_T36 l1 x22_1).f0), .int .i64 ((rd_T36 l1 x22_1).f1), .int .i64 ((rd_T36 l1 x22_1).f2), .int .i64 ((rd_T36 l1 x22_1).f3), .int .u32 ((rd_T36 l1 x22_1).f4)], .agg #[.slice Ao55 t279.length co55]] (by rfl) rfl rfl (by (try simp only [List.map_toArray, List.map_cons, List.map_nil]); first | done | rfl | (simp only [List.length_drop, List.length_take]; rfl)) ?_
                      with_reducible refine (mainsheetlaw08_Op_wants.calls k1 ((rd_T36 l1 x22_1).f0) ((rd_T36 l1 x22_1).f1) ((rd_T36 l1 x22_1).f2) ((rd_T36 l1 x22_1).f3) ((rd_T36 l1 x22_1).f4) _ _ t279 t282 t285 t286 _ ?side1 ?side2 A25.out).mono ?_
                      (case side1 => repeat (first | exact (Kd.R_reads' HO281.out).2.2 | (with_reducible refine Kd.C_alloc ?_ _) | (with_reducible refine Kd.C_drewN ?_ _) | (with_reducible refine Kd.C_drew ?_)))
                      (case side2 => exact (Kd.R_reads' HO281.out).2.1)
                      rintro e w56 ⟨v283, rfl, ho0, hb⟩
                      refine ⟨_, rfl, ?_⟩
                      have n0_ := Aside0.mk (Kd.R_elder' (by (with_reducible repeat (first | apply Kd.R_alloc | apply Kd.R_drewN | apply Kd.R_drew)); exact HO_267000.out) (Kd.R_base ho0) hb)
                      have n1_ := Aside0.mk (Kd.R_elder' (by (with_reducible repeat (first | apply Kd.R_alloc | apply Kd.R_drewN | apply Kd.R_drew)); exact HO271.out) (Kd.R_base ho0) hb)
                      have n2_ := Aside0.mk (Kd.R_elder' (by (with_reducible repeat (first | apply Kd.R_alloc | apply Kd.R_drewN | apply Kd.R_drew)); exact HO275.out) (Kd.R_base ho0) hb)
                      have n3_ := Aside0.mk (Kd.R_elder' (by (with_reducible repeat (first | apply Kd.R_alloc | apply Kd.R_drewN | apply Kd.R_drew)); exact HO281.out) (Kd.R_base ho0) hb)
                      have n4_ := Aside0.mk (Kd.R_lower (Kd.R_new' (Kd.R_new' (Kd.R_new' (Kd.R_new' ho0 (Kd.R_lt (by (with_reducible repeat (first | apply Kd.R_alloc | apply Kd.R_drewN | apply Kd.R_drew)); exact HO_267000.out))) (Kd.R_lt (by (with_reducible repeat (first | apply Kd.R_alloc | apply Kd.R_drewN | apply Kd.R_drew)); exact HO271.out))) (Kd.R_lt (by (with_reducible repeat (first | apply Kd.R_alloc | apply Kd.R_drewN | apply Kd.R_drew)); exact HO275.out))) (Kd.R_lt (by (with_reducible repeat (first | apply Kd.R_alloc | apply Kd.R_drewN | apply Kd.R_drew)); exact HO281.out))) (below_size (by repeat (first | (with_reducible first | exact HB.out | apply below_alloc | apply pw_below_drewN | apply below_drew1 | refine below_set ?_ GE261.out | refine below_set ?_ GE266.out | refine below_set ?_ GE268.out | refine below_set ?_ GE272.out | refine below_set ?_ GE278.out | refine below_set ?_ GE287.out) | exact HB.out))))
                      have n5_ := Aside0.mk (blk_below (g := gb261) (o := .cells #[.slice A0_0 l0_0.length c0_0] 26 (0, 0)) (by (with_reducible repeat (first | refine blk_drewN ?_ _ | refine blk_drew ?_ | refine blk_alloc ?_ _)); exact BK261.out) hb)
                      have n6_ := Aside0.mk (blk_below (g := gb266) (o := .cells #[.slice Ao33 x267000_1.length co33] 26 (0, 0)) (by (with_reducible repeat (first | refine blk_drewN ?_ _ | refine blk_drew ?_ | refine blk_alloc ?_ _)); exact BK266.out) hb)
                      have n7_ := Aside0.mk (blk_below (g := gb268) (o := .cells #[.int .i64 ((rd_T36 l1 x22_1).f0), .int .i64 ((rd_T36 l1 x22_1).f1), .int .i64 ((rd_T36 l1 x22_1).f2), .int .i64 ((rd_T36 l1 x22_1).f3), .int .u32 ((rd_T36 l1 x22_1).f4)] 36 (0, 0)) (by (with_reducible repeat (first | refine blk_drewN ?_ _ | refine blk_drew ?_ | refine blk_alloc ?_ _)); exact BK268.out) hb)
                      have n8_ := Aside0.mk (blk_below (g := gb272) (o := .cells #[.slice Ao36 t269.length co36] 26 (0, 0)) (by (with_reducible repeat (first | refine blk_drewN ?_ _ | refine blk_drew ?_ | refine blk_alloc ?_ _)); exact BK272.out) hb)
                      have n9_ := Aside0.mk (blk_below (g := gb278) (o := .cells #[.slice Ao45 t273.length co45] 26 (0, 0)) (by (with_reducible repeat (first | refine blk_drewN ?_ _ | refine blk_drew ?_ | refine blk_alloc ?_ _)); exact BK278.out) hb)
                      have n10_ := Aside0.mk (blk_below (g := gb287) (o := .cells #[.slice none 0 0] 26 (0, 0)) (by (with_reducible repeat (first | refine blk_drewN ?_ _ | refine blk_drew ?_ | refine blk_alloc ?_ _)); exact BK287.out) hb)
                      have n11_ := Aside0.mk (below_step (by repeat (first | (with_reducible first | exact HB.out | apply below_alloc | apply pw_below_drewN | apply below_drew1 | refine below_set ?_ GE261.out | refine below_set ?_ GE266.out | refine below_set ?_ GE268.out | refine below_set ?_ GE272.out | refine below_set ?_ GE278.out | refine below_set ?_ GE287.out) | exact HB.out)) hb)
                      clear HO_267000
                      clear HO271
                      clear HO275
                      clear HO281
                      clear BK261
                      clear BK266
                      clear BK268
                      clear BK272
                      clear BK278
                      clear BK287
                      clear HB
                      have HO_267000 := n0_
                      have HO271 := n1_
                      have HO275 := n2_
                      have HO281 := n3_
                      have HO284 := n4_
                      have BK261 := n5_
                      have BK266 := n6_
                      have BK268 := n7_
                      have BK272 := n8_
                      have BK278 := n9_
                      have BK287 := n10_
                      have HB := n11_
                      clear n0_ n1_ n2_ n3_ n4_ n5_ n6_ n7_ n8_ n9_ n10_ n11_
                      (try clear hb)
                      (try clear hb2)
                      (try clear hk)
                      (try clear hi)
                      (try clear ho0)
                      refine hK.out _ _ ⟨(blk_cell BK268.out 0).trans rfl, (blk_cell BK268.out 1).trans rfl, (blk_cell BK268.out 2).trans rfl, (blk_cell BK268.out 3).trans rfl, (blk_cell BK268.out 4).trans rfl, (blk_cell BK272.out 0).trans rfl⟩ (fun hHeld => ?_)
                      clear hK K
                      refine norm_ (a' := ?_) ?_ ?_
                      rotate_left
                      · show Act.put _ (some 42) _ = _
                        simp only [Act.put, List.setIfInBounds_toArray, List.set_cons_zero, List.set_cons_succ, i64_w, i32_w]
                        rfl
                      refine pure_ (i := 4) (N := some 38) (v := ?_) (a' := ?_) #[true, true, true, true, true, false, false, false, true, false, false, false] rfl rfl (any_of HT_.out (by kernel_rfl)) (fun _ _ _ h => h) (Or.inl ⟨by rfl, ?_⟩) ?_ ?_
                      rotate_left
                      · intro w'
                        go_simp
                        with_reducible rfl
                      rotate_left
                      · simp only [Act.put, List.setIfInBounds_toArray, List.set_cons_zero, List.set_cons_succ, i64_w, i32_w]
                        rfl
                      refine pure_ (i := 5) (N := some 43) (v := ?_) (a' := ?_) #[true, true, true, true, true, true, false, false, true, false, false, false] rfl rfl (any_of HT_.out (by kernel_rfl)) (fun _ _ _ h => h) (Or.inl ⟨by rfl, ?_⟩) ?_ ?_
                      rotate_left
                      · intro w'
                        go_simp
                        with_reducible rfl
                      rotate_left
                      · simp only [Act.put, List.setIfInBounds_toArray, List.set_cons_zero, List.set_cons_succ, i64_w, i32_w]
                        rfl
                      refine pure_ (i := 6) (N := some 44) (v := ?_) (a' := ?_) #[true, true, true, true, true, true, true, false, true, false, false, false] rfl rfl (any_of HT_.out (by kernel_rfl)) (fun _ _ _ h => h) (Or.inl ⟨by rfl, ?_⟩) ?_ ?_
                      rotate_left
                      · intro w'
                        go_simp
                        with_reducible rfl
                      rotate_left
                      · simp only [Act.put, List.setIfInBounds_toArray, List.set_cons_zero, List.set_cons_succ, i64_w, i32_w]
                        rfl
                      refine pure_ (i := 7) (N := some 45) (v := ?_) (a' := ?_) #[true, true, true, true, true, true, true, true, true, false, false, false] rfl rfl (any_of HT_.out (by kernel_rfl)) (fun _ _ _ h => h) (Or.inl ⟨by rfl, ?_⟩) ?_ ?_
                      rotate_left
                      · intro w'
                        go_simp
                        with_reducible rfl
                      rotate_left
                      · simp only [Act.put, List.setIfInBounds_toArray, List.set_cons_zero, List.set_cons_succ, i64_w, i32_w]
                        rfl
                      exact norm_ (by simp only [putAll, Act.put, List.setIfInBounds_toArray, List.set_cons_zero, List.set_cons_succ]) (hCont (.slice Ao55 t279.length co55, v283, gb287) _ ⟨hHeld, (by (with_reducible repeat (first | apply Kd.R_alloc | apply Kd.R_drewN | apply Kd.R_drew)); exact Kd.R_mono HO271.out (fun _ hk => ⟨hk.1.1.2, ⟨hk.1.2, ⟨hk.2, hk.1.1.1⟩⟩⟩)), (by (with_reducible repeat (first | apply Kd.R_alloc | apply Kd.R_drewN | apply Kd.R_drew)); exact Kd.R_mono HO275.out (fun _ hk => ⟨hk.1.1.2, ⟨hk.1.2, ⟨hk.2, hk.1.1.1⟩⟩⟩)), (by (with_reducible repeat (first | apply Kd.R_alloc | apply Kd.R_drewN | apply Kd.R_drew)); exact Kd.R_mono HO281.out (fun _ hk => ⟨hk.1.1.2, ⟨hk.1.2, ⟨hk.2, hk.1.1.1.2⟩⟩⟩)), (by (with_reducible repeat (first | apply Kd.R_alloc | apply Kd.R_drewN | apply Kd.R_drew)); exact Kd.R_mono HO284.out (fun _ hk => ⟨hk.1.1.2, ⟨hk.1.2, ⟨hk.2, hk.1.1.1.2⟩⟩⟩)), (by (with_reducible repeat (first | apply Kd.R_alloc | apply Kd.R_drewN | apply Kd.R_drew)); exact Kd.R_mono HO_267000.out (fun _ hk => ⟨hk.1.1.1, ⟨hk.1.1.2, ⟨hk.1.2, hk.2⟩⟩⟩)), (by (with_reducible repeat (first | refine blk_drewN ?_ _ | refine blk_drew ?_ | refine blk_alloc ?_ _)); exact BK261.out), (by (with_reducible repeat (first | refine blk_drewN ?_ _ | refine blk_drew ?_ | refine blk_alloc ?_ _)); exact BK266.out), (by (with_reducible repeat (first | refine blk_drewN ?_ _ | refine blk_drew ?_ | refine blk_alloc ?_ _)); exact BK268.out), (by (with_reducible repeat (first | refine blk_drewN ?_ _ | refine blk_drew ?_ | refine blk_alloc ?_ _)); exact BK272.out), (by (with_reducible repeat (first | refine blk_drewN ?_ _ | refine blk_drew ?_ | refine blk_alloc ?_ _)); exact BK278.out), (by (with_reducible repeat (first | refine blk_drewN ?_ _ | refine blk_drew ?_ | refine blk_alloc ?_ _)); exact BK287.out), GW287.out, GE287.out, NB261_287.out, NB287_261.out, NB266_287.out, NB287_266.out, NB268_287.out, NB287_268.out, NB272_287.out, NB287_272.out, NB278_287.out, NB287_278.out, (by repeat (first | (with_reducible first | exact HB.out | apply below_alloc | apply pw_below_drewN | apply below_drew1 | refine below_set ?_ GE261.out | refine below_set ?_ GE266.out | refine below_set ?_ GE268.out | refine below_set ?_ GE272.out | refine below_set ?_ GE278.out | refine below_set ?_ GE287.out) | exact HB.out))⟩)
                  · skip
                    refine box_step ?hg (N := 12) ?hd (cs := #[.slice none 0 0]) (t := 26) ?hr ?_; (case hd => rfl); (case hg => rfl); (case hr => first | (go_simp; done) | (go_simp; rfl))
                    intro gb287 hg w53 hbox hb
                    have n0_ := Aside0.mk (Kd.R_below (by (with_reducible repeat (first | apply Kd.R_alloc | apply Kd.R_drewN | apply Kd.R_drew)); exact HO_267000.out) hb)
                    have n1_ := Aside0.mk (Kd.R_below (by (with_reducible repeat (first | apply Kd.R_alloc | apply Kd.R_drewN | apply Kd.R_drew)); exact HO271.out) hb)
                    have n2_ := Aside0.mk (Kd.R_below (by (with_reducible repeat (first | apply Kd.R_alloc | apply Kd.R_drewN | apply Kd.R_drew)); exact HO275.out) hb)
                    have n3_ := Aside0.mk (blk_below (g := gb261) (o := .cells #[.slice A0_0 l0_0.length c0_0] 26 (0, 0)) (by (with_reducible repeat (first | refine blk_drewN ?_ _ | refine blk_drew ?_ | refine blk_alloc ?_ _)); exact BK261.out) hb)
                    have n4_ := Aside0.mk (blk_below (g := gb266) (o := .cells #[.slice Ao33 x267000_1.length co33] 26 (0, 0)) (by (with_reducible repeat (first | refine blk_drewN ?_ _ | refine blk_drew ?_ | refine blk_alloc ?_ _)); exact BK266.out) hb)
                    have n5_ := Aside0.mk (blk_below (g := gb268) (o := .cells #[.int .i64 ((rd_T36 l1 x22_1).f0), .int .i64 ((rd_T36 l1 x22_1).f1), .int .i64 ((rd_T36 l1 x22_1).f2), .int .i64 ((rd_T36 l1 x22_1).f3), .int .u32 ((rd_T36 l1 x22_1).f4)] 36 (0, 0)) (by (with_reducible repeat (first | refine blk_drewN ?_ _ | refine blk_drew ?_ | refine blk_alloc ?_ _)); exact BK268.out) hb)
                    have n6_ := Aside0.mk (blk_below (g := gb272) (o := .cells #[.slice Ao36 t269.length co36] 26 (0, 0)) (by (with_reducible repeat (first | refine blk_drewN ?_ _ | refine blk_drew ?_ | refine blk_alloc ?_ _)); exact BK272.out) hb)
                    have n7_ := Aside0.mk (blk_below (g := gb278) (o := .cells #[.slice Ao45 t273.length co45] 26 (0, 0)) (by (with_reducible repeat (first | refine blk_drewN ?_ _ | refine blk_drew ?_ | refine blk_alloc ?_ _)); exact BK278.out) hb)
                    have n8_ := Aside0.mk (below_step (by repeat (first | (with_reducible first | exact HB.out | apply below_alloc | apply pw_below_drewN | apply below_drew1 | refine below_set ?_ GE261.out | refine below_set ?_ GE266.out | refine below_set ?_ GE268.out | refine below_set ?_ GE272.out | refine below_set ?_ GE278.out) | exact HB.out)) hb)
                    have n9_ := Aside0.mk (hbox)
                    have n10_ := Aside0.mk ((by rw [hg]; exact (below_size (by repeat (first | (with_reducible first | exact HB.out | apply below_alloc | apply pw_below_drewN | apply below_drew1 | refine below_set ?_ GE261.out | refine below_set ?_ GE266.out | refine below_set ?_ GE268.out | refine below_set ?_ GE272.out | refine below_set ?_ GE278.out) | exact HB.out))) : w.heap.size ≤ gb287))
                    have n11_ := Aside0.mk ((by rw [hg]; exact (below_size (by repeat (first | (with_reducible first | exact HB.out | apply below_alloc | apply pw_below_drewN | apply below_drew1 | refine below_set ?_ GE261.out | refine below_set ?_ GE266.out | refine below_set ?_ GE268.out | refine below_set ?_ GE272.out | refine below_set ?_ GE278.out) | exact HB.out))) : w.heap.size ≤ gb287))
                    have n12_ := Aside0.mk ((by rw [hg]; exact Nat.ne_of_lt (blk_lt (g := gb261) (o := .cells #[.slice A0_0 l0_0.length c0_0] 26 (0, 0)) (by (with_reducible repeat (first | refine blk_drewN ?_ _ | refine blk_drew ?_ | refine blk_alloc ?_ _)); exact BK261.out)) : gb261 ≠ gb287))
                    have n13_ := Aside0.mk ((by rw [hg]; exact Nat.ne_of_gt (blk_lt (g := gb261) (o := .cells #[.slice A0_0 l0_0.length c0_0] 26 (0, 0)) (by (with_reducible repeat (first | refine blk_drewN ?_ _ | refine blk_drew ?_ | refine blk_alloc ?_ _)); exact BK261.out)) : gb287 ≠ gb261))
                    have n14_ := Aside0.mk ((by rw [hg]; exact Nat.ne_of_lt (blk_lt (g := gb266) (o := .cells #[.slice Ao33 x267000_1.length co33] 26 (0, 0)) (by (with_reducible repeat (first | refine blk_drewN ?_ _ | refine blk_drew ?_ | refine blk_alloc ?_ _)); exact BK266.out)) : gb266 ≠ gb287))
                    have n15_ := Aside0.mk ((by rw [hg]; exact Nat.ne_of_gt (blk_lt (g := gb266) (o := .cells #[.slice Ao33 x267000_1.length co33] 26 (0, 0)) (by (with_reducible repeat (first | refine blk_drewN ?_ _ | refine blk_drew ?_ | refine blk_alloc ?_ _)); exact BK266.out)) : gb287 ≠ gb266))
                    have n16_ := Aside0.mk ((by rw [hg]; exact Nat.ne_of_lt (blk_lt (g := gb268) (o := .cells #[.int .i64 ((rd_T36 l1 x22_1).f0), .int .i64 ((rd_T36 l1 x22_1).f1), .int .i64 ((rd_T36 l1 x22_1).f2), .int .i64 ((rd_T36 l1 x22_1).f3), .int .u32 ((rd_T36 l1 x22_1).f4)] 36 (0, 0)) (by (with_reducible repeat (first | refine blk_drewN ?_ _ | refine blk_drew ?_ | refine blk_alloc ?_ _)); exact BK268.out)) : gb268 ≠ gb287))
                    have n17_ := Aside0.mk ((by rw [hg]; exact Nat.ne_of_gt (blk_lt (g := gb268) (o := .cells #[.int .i64 ((rd_T36 l1 x22_1).f0), .int .i64 ((rd_T36 l1 x22_1).f1), .int .i64 ((rd_T36 l1 x22_1).f2), .int .i64 ((rd_T36 l1 x22_1).f3), .int .u32 ((rd_T36 l1 x22_1).f4)] 36 (0, 0)) (by (with_reducible repeat (first | refine blk_drewN ?_ _ | refine blk_drew ?_ | refine blk_alloc ?_ _)); exact BK268.out)) : gb287 ≠ gb268))
                    have n18_ := Aside0.mk ((by rw [hg]; exact Nat.ne_of_lt (blk_lt (g := gb272) (o := .cells #[.slice Ao36 t269.length co36] 26 (0, 0)) (by (with_reducible repeat (first | refine blk_drewN ?_ _ | refine blk_drew ?_ | refine blk_alloc ?_ _)); exact BK272.out)) : gb272 ≠ gb287))
                    have n19_ := Aside0.mk ((by rw [hg]; exact Nat.ne_of_gt (blk_lt (g := gb272) (o := .cells #[.slice Ao36 t269.length co36] 26 (0, 0)) (by (with_reducible repeat (first | refine blk_drewN ?_ _ | refine blk_drew ?_ | refine blk_alloc ?_ _)); exact BK272.out)) : gb287 ≠ gb272))
                    have n20_ := Aside0.mk ((by rw [hg]; exact Nat.ne_of_lt (blk_lt (g := gb278) (o := .cells #[.slice Ao45 t273.length co45] 26 (0, 0)) (by (with_reducible repeat (first | refine blk_drewN ?_ _ | refine blk_drew ?_ | refine blk_alloc ?_ _)); exact BK278.out)) : gb278 ≠ gb287))
                    have n21_ := Aside0.mk ((by rw [hg]; exact Nat.ne_of_gt (blk_lt (g := gb278) (o := .cells #[.slice Ao45 t273.length co45] 26 (0, 0)) (by (with_reducible repeat (first | refine blk_drewN ?_ _ | refine blk_drew ?_ | refine blk_alloc ?_ _)); exact BK278.out)) : gb287 ≠ gb278))
                    clear HO_267000
                    clear HO271
                    clear HO275
                    clear BK261
                    clear BK266
                    clear BK268
                    clear BK272
                    clear BK278
                    clear HB
                    have HO_267000 := n0_
                    have HO271 := n1_
                    have HO275 := n2_
                    have BK261 := n3_
                    have BK266 := n4_
                    have BK268 := n5_
                    have BK272 := n6_
                    have BK278 := n7_
                    have HB := n8_
                    have BK287 := n9_
                    have GW287 := n10_
                    have GE287 := n11_
                    have NB261_287 := n12_
                    have NB287_261 := n13_
                    have NB266_287 := n14_
                    have NB287_266 := n15_
                    have NB268_287 := n16_
                    have NB287_268 := n17_
                    have NB272_287 := n18_
                    have NB287_272 := n19_
                    have NB278_287 := n20_
                    have NB287_278 := n21_
                    clear n0_ n1_ n2_ n3_ n4_ n5_ n6_ n7_ n8_ n9_ n10_ n11_ n12_ n13_ n14_ n15_ n16_ n17_ n18_ n19_ n20_ n21_
                    clear hb hbox hg
                    refine hK.out _ _ ⟨(blk_cell BK268.out 0).trans rfl, (blk_cell BK268.out 1).trans rfl, (blk_cell BK268.out 2).trans rfl, (blk_cell BK268.out 3).trans rfl, (blk_cell BK268.out 4).trans rfl, (blk_cell BK272.out 0).trans rfl⟩ (fun hHeld => ?_)
                    clear hK K
                    refine norm_ (a' := ?_) ?_ ?_
                    rotate_left
                    · show Act.put _ (some 12) _ = _
                      simp only [Act.put, List.setIfInBounds_toArray, List.set_cons_zero, List.set_cons_succ, i64_w, i32_w]
                      rfl
                    refine one_ (i := 2) (N := some 41) #[true, true, true, false, false, false, false, false, true, false, false, false] rfl rfl (one_of HT_.out (by kernel_rfl)) (by decide) (fun K hK => ?_)
                    refine goes_ Try.func11 (by kernel_rfl) rfl #[.agg #[.slice Ao36 t269.length co36]] (by rfl) rfl rfl (by (try simp only [List.map_toArray, List.map_cons, List.map_nil]); first | done | rfl | (simp only [List.length_drop, List.length_take]; rfl)) ?_
                    with_reducible refine (mainsheetlaw08_short.calls _ _ t269 t279 _ ?side1 ?side2 A24.out).mono ?_
                    (case side1 => repeat (first | exact (Kd.R_reads' HO271.out).2.2 | (with_reducible refine Kd.C_alloc ?_ _) | (with_reducible refine Kd.C_drewN ?_ _) | (with_reducible refine Kd.C_drew ?_)))
                    (case side2 => exact (Kd.R_reads' HO271.out).2.1)
                    rintro e w54 ⟨v280, rfl, ho0, hb⟩
                    refine ⟨_, rfl, ?_⟩
                    have n0_ := Aside0.mk (Kd.R_elder' (by (with_reducible repeat (first | apply Kd.R_alloc | apply Kd.R_drewN | apply Kd.R_drew)); exact HO_267000.out) (Kd.R_base ho0) hb)
                    have n1_ := Aside0.mk (Kd.R_elder' (by (with_reducible repeat (first | apply Kd.R_alloc | apply Kd.R_drewN | apply Kd.R_drew)); exact HO271.out) (Kd.R_base ho0) hb)
                    have n2_ := Aside0.mk (Kd.R_elder' (by (with_reducible repeat (first | apply Kd.R_alloc | apply Kd.R_drewN | apply Kd.R_drew)); exact HO275.out) (Kd.R_base ho0) hb)
                    have n3_ := Aside0.mk (Kd.R_lower (Kd.R_new' (Kd.R_new' (Kd.R_new' ho0 (Kd.R_lt (by (with_reducible repeat (first | apply Kd.R_alloc | apply Kd.R_drewN | apply Kd.R_drew)); exact HO_267000.out))) (Kd.R_lt (by (with_reducible repeat (first | apply Kd.R_alloc | apply Kd.R_drewN | apply Kd.R_drew)); exact HO271.out))) (Kd.R_lt (by (with_reducible repeat (first | apply Kd.R_alloc | apply Kd.R_drewN | apply Kd.R_drew)); exact HO275.out))) (below_size (by repeat (first | (with_reducible first | exact HB.out | apply below_alloc | apply pw_below_drewN | apply below_drew1 | refine below_set ?_ GE261.out | refine below_set ?_ GE266.out | refine below_set ?_ GE268.out | refine below_set ?_ GE272.out | refine below_set ?_ GE278.out | refine below_set ?_ GE287.out) | exact HB.out))))
                    have n4_ := Aside0.mk (blk_below (g := gb261) (o := .cells #[.slice A0_0 l0_0.length c0_0] 26 (0, 0)) (by (with_reducible repeat (first | refine blk_drewN ?_ _ | refine blk_drew ?_ | refine blk_alloc ?_ _)); exact BK261.out) hb)
                    have n5_ := Aside0.mk (blk_below (g := gb266) (o := .cells #[.slice Ao33 x267000_1.length co33] 26 (0, 0)) (by (with_reducible repeat (first | refine blk_drewN ?_ _ | refine blk_drew ?_ | refine blk_alloc ?_ _)); exact BK266.out) hb)
                    have n6_ := Aside0.mk (blk_below (g := gb268) (o := .cells #[.int .i64 ((rd_T36 l1 x22_1).f0), .int .i64 ((rd_T36 l1 x22_1).f1), .int .i64 ((rd_T36 l1 x22_1).f2), .int .i64 ((rd_T36 l1 x22_1).f3), .int .u32 ((rd_T36 l1 x22_1).f4)] 36 (0, 0)) (by (with_reducible repeat (first | refine blk_drewN ?_ _ | refine blk_drew ?_ | refine blk_alloc ?_ _)); exact BK268.out) hb)
                    have n7_ := Aside0.mk (blk_below (g := gb272) (o := .cells #[.slice Ao36 t269.length co36] 26 (0, 0)) (by (with_reducible repeat (first | refine blk_drewN ?_ _ | refine blk_drew ?_ | refine blk_alloc ?_ _)); exact BK272.out) hb)
                    have n8_ := Aside0.mk (blk_below (g := gb278) (o := .cells #[.slice Ao45 t273.length co45] 26 (0, 0)) (by (with_reducible repeat (first | refine blk_drewN ?_ _ | refine blk_drew ?_ | refine blk_alloc ?_ _)); exact BK278.out) hb)
                    have n9_ := Aside0.mk (blk_below (g := gb287) (o := .cells #[.slice none 0 0] 26 (0, 0)) (by (with_reducible repeat (first | refine blk_drewN ?_ _ | refine blk_drew ?_ | refine blk_alloc ?_ _)); exact BK287.out) hb)
                    have n10_ := Aside0.mk (below_step (by repeat (first | (with_reducible first | exact HB.out | apply below_alloc | apply pw_below_drewN | apply below_drew1 | refine below_set ?_ GE261.out | refine below_set ?_ GE266.out | refine below_set ?_ GE268.out | refine below_set ?_ GE272.out | refine below_set ?_ GE278.out | refine below_set ?_ GE287.out) | exact HB.out)) hb)
                    clear HO_267000
                    clear HO271
                    clear HO275
                    clear BK261
                    clear BK266
                    clear BK268
                    clear BK272
                    clear BK278
                    clear BK287
                    clear HB
                    have HO_267000 := n0_
                    have HO271 := n1_
                    have HO275 := n2_
                    have HO281 := n3_
                    have BK261 := n4_
                    have BK266 := n5_
                    have BK268 := n6_
                    have BK272 := n7_
                    have BK278 := n8_
                    have BK287 := n9_
                    have HB := n10_
                    clear n0_ n1_ n2_ n3_ n4_ n5_ n6_ n7_ n8_ n9_ n10_
                    (try clear hb)
                    (try clear hb2)
                    (try clear hk)
                    (try clear hi)
                    (try clear ho0)
                    obtain ⟨Ao55, co55, eo55⟩ := Kd.R_slice HO281.out
                    (first | subst eo55 | (injection eo55 with f1_ f2_ f3_; have f4_ := f1_.symm; have f5_ := f3_.symm; clear f1_ f2_ f3_; subst f4_; subst f5_))
                    refine hK.out _ _ ⟨(blk_cell BK268.out 0).trans rfl, (blk_cell BK268.out 1).trans rfl, (blk_cell BK268.out 2).trans rfl, (blk_cell BK268.out 3).trans rfl, (blk_cell BK268.out 4).trans rfl, (blk_cell BK272.out 0).trans rfl⟩ (fun hHeld => ?_)
                    clear hK K
                    refine norm_ (a' := ?_) ?_ ?_
                    rotate_left
                    · show Act.put _ (some 41) _ = _
                      simp only [Act.put, List.setIfInBounds_toArray, List.set_cons_zero, List.set_cons_succ, i64_w, i32_w]
                      rfl
                    refine one_ (i := 3) (N := some 42) #[true, true, true, true, false, false, false, false, true, false, false, false] rfl rfl (one_of HT_.out (by kernel_rfl)) (by decide) (fun K hK => ?_)
                    refine goes_ Try.func13 (by kernel_rfl) rfl #[.agg #[.int .i64 ((rd_T36 l1 x22_1).f0), .int .i64 ((rd_T36 l1 x22_1).f1), .int .i64 ((rd_T36 l1 x22_1).f2), .int .i64 ((rd_T36 l1 x22_1).f3), .int .u32 ((rd_T36 l1 x22_1).f4)], .agg #[.slice Ao55 t279.length co55]] (by rfl) rfl rfl (by (try simp only [List.map_toArray, List.map_cons, List.map_nil]); first | done | rfl | (simp only [List.length_drop, List.length_take]; rfl)) ?_
                    with_reducible refine (mainsheetlaw08_Op_wants.calls k1 ((rd_T36 l1 x22_1).f0) ((rd_T36 l1 x22_1).f1) ((rd_T36 l1 x22_1).f2) ((rd_T36 l1 x22_1).f3) ((rd_T36 l1 x22_1).f4) _ _ t279 t282 t285 t286 _ ?side1 ?side2 A25.out).mono ?_
                    (case side1 => repeat (first | exact (Kd.R_reads' HO281.out).2.2 | (with_reducible refine Kd.C_alloc ?_ _) | (with_reducible refine Kd.C_drewN ?_ _) | (with_reducible refine Kd.C_drew ?_)))
                    (case side2 => exact (Kd.R_reads' HO281.out).2.1)
                    rintro e w56 ⟨v283, rfl, ho0, hb⟩
                    refine ⟨_, rfl, ?_⟩
                    have n0_ := Aside0.mk (Kd.R_elder' (by (with_reducible repeat (first | apply Kd.R_alloc | apply Kd.R_drewN | apply Kd.R_drew)); exact HO_267000.out) (Kd.R_base ho0) hb)
                    have n1_ := Aside0.mk (Kd.R_elder' (by (with_reducible repeat (first | apply Kd.R_alloc | apply Kd.R_drewN | apply Kd.R_drew)); exact HO271.out) (Kd.R_base ho0) hb)
                    have n2_ := Aside0.mk (Kd.R_elder' (by (with_reducible repeat (first | apply Kd.R_alloc | apply Kd.R_drewN | apply Kd.R_drew)); exact HO275.out) (Kd.R_base ho0) hb)
                    have n3_ := Aside0.mk (Kd.R_elder' (by (with_reducible repeat (first | apply Kd.R_alloc | apply Kd.R_drewN | apply Kd.R_drew)); exact HO281.out) (Kd.R_base ho0) hb)
                    have n4_ := Aside0.mk (Kd.R_lower (Kd.R_new' (Kd.R_new' (Kd.R_new' (Kd.R_new' ho0 (Kd.R_lt (by (with_reducible repeat (first | apply Kd.R_alloc | apply Kd.R_drewN | apply Kd.R_drew)); exact HO_267000.out))) (Kd.R_lt (by (with_reducible repeat (first | apply Kd.R_alloc | apply Kd.R_drewN | apply Kd.R_drew)); exact HO271.out))) (Kd.R_lt (by (with_reducible repeat (first | apply Kd.R_alloc | apply Kd.R_drewN | apply Kd.R_drew)); exact HO275.out))) (Kd.R_lt (by (with_reducible repeat (first | apply Kd.R_alloc | apply Kd.R_drewN | apply Kd.R_drew)); exact HO281.out))) (below_size (by repeat (first | (with_reducible first | exact HB.out | apply below_alloc | apply pw_below_drewN | apply below_drew1 | refine below_set ?_ GE261.out | refine below_set ?_ GE266.out | refine below_set ?_ GE268.out | refine below_set ?_ GE272.out | refine below_set ?_ GE278.out | refine below_set ?_ GE287.out) | exact HB.out))))
                    have n5_ := Aside0.mk (blk_below (g := gb261) (o := .cells #[.slice A0_0 l0_0.length c0_0] 26 (0, 0)) (by (with_reducible repeat (first | refine blk_drewN ?_ _ | refine blk_drew ?_ | refine blk_alloc ?_ _)); exact BK261.out) hb)
                    have n6_ := Aside0.mk (blk_below (g := gb266) (o := .cells #[.slice Ao33 x267000_1.length co33] 26 (0, 0)) (by (with_reducible repeat (first | refine blk_drewN ?_ _ | refine blk_drew ?_ | refine blk_alloc ?_ _)); exact BK266.out) hb)
                    have n7_ := Aside0.mk (blk_below (g := gb268) (o := .cells #[.int .i64 ((rd_T36 l1 x22_1).f0), .int .i64 ((rd_T36 l1 x22_1).f1), .int .i64 ((rd_T36 l1 x22_1).f2), .int .i64 ((rd_T36 l1 x22_1).f3), .int .u32 ((rd_T36 l1 x22_1).f4)] 36 (0, 0)) (by (with_reducible repeat (first | refine blk_drewN ?_ _ | refine blk_drew ?_ | refine blk_alloc ?_ _)); exact BK268.out) hb)
                    have n8_ := Aside0.mk (blk_below (g := gb272) (o := .cells #[.slice Ao36 t269.length co36] 26 (0, 0)) (by (with_reducible repeat (first | refine blk_drewN ?_ _ | refine blk_drew ?_ | refine blk_alloc ?_ _)); exact BK272.out) hb)
                    have n9_ := Aside0.mk (blk_below (g := gb278) (o := .cells #[.slice Ao45 t273.length co45] 26 (0, 0)) (by (with_reducible repeat (first | refine blk_drewN ?_ _ | refine blk_drew ?_ | refine blk_alloc ?_ _)); exact BK278.out) hb)
                    have n10_ := Aside0.mk (blk_below (g := gb287) (o := .cells #[.slice none 0 0] 26 (0, 0)) (by (with_reducible repeat (first | refine blk_drewN ?_ _ | refine blk_drew ?_ | refine blk_alloc ?_ _)); exact BK287.out) hb)
                    have n11_ := Aside0.mk (below_step (by repeat (first | (with_reducible first | exact HB.out | apply below_alloc | apply pw_below_drewN | apply below_drew1 | refine below_set ?_ GE261.out | refine below_set ?_ GE266.out | refine below_set ?_ GE268.out | refine below_set ?_ GE272.out | refine below_set ?_ GE278.out | refine below_set ?_ GE287.out) | exact HB.out)) hb)
                    clear HO_267000
                    clear HO271
                    clear HO275
                    clear HO281
                    clear BK261
                    clear BK266
                    clear BK268
                    clear BK272
                    clear BK278
                    clear BK287
                    clear HB
                    have HO_267000 := n0_
                    have HO271 := n1_
                    have HO275 := n2_
                    have HO281 := n3_
                    have HO284 := n4_
                    have BK261 := n5_
                    have BK266 := n6_
                    have BK268 := n7_
                    have BK272 := n8_
                    have BK278 := n9_
                    have BK287 := n10_
                    have HB := n11_
                    clear n0_ n1_ n2_ n3_ n4_ n5_ n6_ n7_ n8_ n9_ n10_ n11_
                    (try clear hb)
                    (try clear hb2)
                    (try clear hk)
                    (try clear hi)
                    (try clear ho0)
                    refine hK.out _ _ ⟨(blk_cell BK268.out 0).trans rfl, (blk_cell BK268.out 1).trans rfl, (blk_cell BK268.out 2).trans rfl, (blk_cell BK268.out 3).trans rfl, (blk_cell BK268.out 4).trans rfl, (blk_cell BK272.out 0).trans rfl⟩ (fun hHeld => ?_)
                    clear hK K
                    refine norm_ (a' := ?_) ?_ ?_
                    rotate_left
                    · show Act.put _ (some 42) _ = _
                      simp only [Act.put, List.setIfInBounds_toArray, List.set_cons_zero, List.set_cons_succ, i64_w, i32_w]
                      rfl
                    refine pure_ (i := 4) (N := some 38) (v := ?_) (a' := ?_) #[true, true, true, true, true, false, false, false, true, false, false, false] rfl rfl (any_of HT_.out (by kernel_rfl)) (fun _ _ _ h => h) (Or.inl ⟨by rfl, ?_⟩) ?_ ?_
                    rotate_left
                    · intro w'
                      go_simp
                      with_reducible rfl
                    rotate_left
                    · simp only [Act.put, List.setIfInBounds_toArray, List.set_cons_zero, List.set_cons_succ, i64_w, i32_w]
                      rfl
                    refine pure_ (i := 5) (N := some 43) (v := ?_) (a' := ?_) #[true, true, true, true, true, true, false, false, true, false, false, false] rfl rfl (any_of HT_.out (by kernel_rfl)) (fun _ _ _ h => h) (Or.inl ⟨by rfl, ?_⟩) ?_ ?_
                    rotate_left
                    · intro w'
                      go_simp
                      with_reducible rfl
                    rotate_left
                    · simp only [Act.put, List.setIfInBounds_toArray, List.set_cons_zero, List.set_cons_succ, i64_w, i32_w]
                      rfl
                    refine pure_ (i := 6) (N := some 44) (v := ?_) (a' := ?_) #[true, true, true, true, true, true, true, false, true, false, false, false] rfl rfl (any_of HT_.out (by kernel_rfl)) (fun _ _ _ h => h) (Or.inl ⟨by rfl, ?_⟩) ?_ ?_
                    rotate_left
                    · intro w'
                      go_simp
                      with_reducible rfl
                    rotate_left
                    · simp only [Act.put, List.setIfInBounds_toArray, List.set_cons_zero, List.set_cons_succ, i64_w, i32_w]
                      rfl
                    refine pure_ (i := 7) (N := some 45) (v := ?_) (a' := ?_) #[true, true, true, true, true, true, true, true, true, false, false, false] rfl rfl (any_of HT_.out (by kernel_rfl)) (fun _ _ _ h => h) (Or.inl ⟨by rfl, ?_⟩) ?_ ?_
                    rotate_left
                    · intro w'
                      go_simp
                      with_reducible rfl
                    rotate_left
                    · simp only [Act.put, List.setIfInBounds_toArray, List.set_cons_zero, List.set_cons_succ, i64_w, i32_w]
                      rfl
                    exact norm_ (by simp only [putAll, Act.put, List.setIfInBounds_toArray, List.set_cons_zero, List.set_cons_succ]) (hCont (.slice Ao55 t279.length co55, v283, gb287) _ ⟨hHeld, (by (with_reducible repeat (first | apply Kd.R_alloc | apply Kd.R_drewN | apply Kd.R_drew)); exact Kd.R_mono HO271.out (fun _ hk => ⟨hk.1.1.2, ⟨hk.1.2, ⟨hk.2, hk.1.1.1⟩⟩⟩)), (by (with_reducible repeat (first | apply Kd.R_alloc | apply Kd.R_drewN | apply Kd.R_drew)); exact Kd.R_mono HO275.out (fun _ hk => ⟨hk.1.1.2, ⟨hk.1.2, ⟨hk.2, hk.1.1.1⟩⟩⟩)), (by (with_reducible repeat (first | apply Kd.R_alloc | apply Kd.R_drewN | apply Kd.R_drew)); exact Kd.R_mono HO281.out (fun _ hk => ⟨hk.1.1.2, ⟨hk.1.2, ⟨hk.2, hk.1.1.1.2⟩⟩⟩)), (by (with_reducible repeat (first | apply Kd.R_alloc | apply Kd.R_drewN | apply Kd.R_drew)); exact Kd.R_mono HO284.out (fun _ hk => ⟨hk.1.1.2, ⟨hk.1.2, ⟨hk.2, hk.1.1.1.2⟩⟩⟩)), (by (with_reducible repeat (first | apply Kd.R_alloc | apply Kd.R_drewN | apply Kd.R_drew)); exact Kd.R_mono HO_267000.out (fun _ hk => ⟨hk.1.1.1, ⟨hk.1.1.2, ⟨hk.1.2, hk.2⟩⟩⟩)), (by (with_reducible repeat (first | refine blk_drewN ?_ _ | refine blk_drew ?_ | refine blk_alloc ?_ _)); exact BK261.out), (by (with_reducible repeat (first | refine blk_drewN ?_ _ | refine blk_drew ?_ | refine blk_alloc ?_ _)); exact BK266.out), (by (with_reducible repeat (first | refine blk_drewN ?_ _ | refine blk_drew ?_ | refine blk_alloc ?_ _)); exact BK268.out), (by (with_reducible repeat (first | refine blk_drewN ?_ _ | refine blk_drew ?_ | refine blk_alloc ?_ _)); exact BK272.out), (by (with_reducible repeat (first | refine blk_drewN ?_ _ | refine blk_drew ?_ | refine blk_alloc ?_ _)); exact BK278.out), (by (with_reducible repeat (first | refine blk_drewN ?_ _ | refine blk_drew ?_ | refine blk_alloc ?_ _)); exact BK287.out), GW287.out, GE287.out, NB261_287.out, NB287_261.out, NB266_287.out, NB287_266.out, NB268_287.out, NB287_268.out, NB272_287.out, NB287_272.out, NB278_287.out, NB287_278.out, (by repeat (first | (with_reducible first | exact HB.out | apply below_alloc | apply pw_below_drewN | apply below_drew1 | refine below_set ?_ GE261.out | refine below_set ?_ GE266.out | refine below_set ?_ GE268.out | refine below_set ?_ GE272.out | refine below_set ?_ GE278.out | refine below_set ?_ GE287.out) | exact HB.out))⟩)
                rintro ⟨v280, v283, gb287⟩ w57 ⟨hS_, h0_, h1_, h2_, h3_, h4_, h5_, h6_, h7_, h8_, h9_, h10_, h11_, h12_, h13_, h14_, h15_, h16_, h17_, h18_, h19_, h20_, h21_, h22_, h23_⟩
                have n0_ : Aside0 (Kd.R (Kd.int .u32) 31 w57 w.heap.size (fun k_ => some k_ ≠ (.slice Ao45 t273.length co45 : Value).ownBlock ∧ some k_ ≠ (v280 : Value).ownBlock ∧ some k_ ≠ (v283 : Value).ownBlock ∧ some k_ ≠ (.slice Ao33 x267000_1.length co33 : Value).ownBlock) (.slice Ao36 t269.length co36) t269) := ⟨h0_⟩
                have n1_ : Aside0 (Kd.R (Kd.int .u32) 31 w57 w.heap.size (fun k_ => some k_ ≠ (.slice Ao36 t269.length co36 : Value).ownBlock ∧ some k_ ≠ (v280 : Value).ownBlock ∧ some k_ ≠ (v283 : Value).ownBlock ∧ some k_ ≠ (.slice Ao33 x267000_1.length co33 : Value).ownBlock) (.slice Ao45 t273.length co45) t273) := ⟨h1_⟩
                have n2_ : Aside0 (Kd.R (Kd.int .u32) 31 w57 w.heap.size (fun k_ => some k_ ≠ (.slice Ao36 t269.length co36 : Value).ownBlock ∧ some k_ ≠ (.slice Ao45 t273.length co45 : Value).ownBlock ∧ some k_ ≠ (v283 : Value).ownBlock ∧ some k_ ≠ (.slice Ao33 x267000_1.length co33 : Value).ownBlock) v280 t279) := ⟨h2_⟩
                have n3_ : Aside0 (Kd.R (Kd.int .u32) 31 w57 w.heap.size (fun k_ => some k_ ≠ (.slice Ao36 t269.length co36 : Value).ownBlock ∧ some k_ ≠ (.slice Ao45 t273.length co45 : Value).ownBlock ∧ some k_ ≠ (v280 : Value).ownBlock ∧ some k_ ≠ (.slice Ao33 x267000_1.length co33 : Value).ownBlock) v283 t282) := ⟨h3_⟩
                have n4_ : Aside0 (Kd.R (Kd.int .u32) 31 w57 w.heap.size (fun k_ => some k_ ≠ (.slice Ao36 t269.length co36 : Value).ownBlock ∧ some k_ ≠ (.slice Ao45 t273.length co45 : Value).ownBlock ∧ some k_ ≠ (v280 : Value).ownBlock ∧ some k_ ≠ (v283 : Value).ownBlock) (.slice Ao33 x267000_1.length co33) x267000_1) := ⟨h4_⟩
                have n5_ : Aside0 (w57.heap[gb261]? = some (.cells #[.slice A0_0 l0_0.length c0_0] 26 (0, 0))) := ⟨h5_⟩
                have n6_ : Aside0 (w57.heap[gb266]? = some (.cells #[.slice Ao33 x267000_1.length co33] 26 (0, 0))) := ⟨h6_⟩
                have n7_ : Aside0 (w57.heap[gb268]? = some (.cells #[.int .i64 ((rd_T36 l1 x22_1).f0), .int .i64 ((rd_T36 l1 x22_1).f1), .int .i64 ((rd_T36 l1 x22_1).f2), .int .i64 ((rd_T36 l1 x22_1).f3), .int .u32 ((rd_T36 l1 x22_1).f4)] 36 (0, 0))) := ⟨h7_⟩
                have n8_ : Aside0 (w57.heap[gb272]? = some (.cells #[.slice Ao36 t269.length co36] 26 (0, 0))) := ⟨h8_⟩
                have n9_ : Aside0 (w57.heap[gb278]? = some (.cells #[.slice Ao45 t273.length co45] 26 (0, 0))) := ⟨h9_⟩
                have n10_ : Aside0 (w57.heap[gb287]? = some (.cells #[.slice none 0 0] 26 (0, 0))) := ⟨h10_⟩
                have n11_ : Aside0 (w.heap.size ≤ gb287) := ⟨h11_⟩
                have n12_ : Aside0 (w.heap.size ≤ gb287) := ⟨h12_⟩
                have n13_ : Aside0 (gb261 ≠ gb287) := ⟨h13_⟩
                have n14_ : Aside0 (gb287 ≠ gb261) := ⟨h14_⟩
                have n15_ : Aside0 (gb266 ≠ gb287) := ⟨h15_⟩
                have n16_ : Aside0 (gb287 ≠ gb266) := ⟨h16_⟩
                have n17_ : Aside0 (gb268 ≠ gb287) := ⟨h17_⟩
                have n18_ : Aside0 (gb287 ≠ gb268) := ⟨h18_⟩
                have n19_ : Aside0 (gb272 ≠ gb287) := ⟨h19_⟩
                have n20_ : Aside0 (gb287 ≠ gb272) := ⟨h20_⟩
                have n21_ : Aside0 (gb278 ≠ gb287) := ⟨h21_⟩
                have n22_ : Aside0 (gb287 ≠ gb278) := ⟨h22_⟩
                have n23_ : Aside0 (Below w.heap.size w w57) := ⟨h23_⟩
                clear HO_267000
                clear HO271
                clear HO275
                clear BK261
                clear BK266
                clear BK268
                clear BK272
                clear BK278
                clear HB
                clear h0_ h1_ h2_ h3_ h4_ h5_ h6_ h7_ h8_ h9_ h10_ h11_ h12_ h13_ h14_ h15_ h16_ h17_ h18_ h19_ h20_ h21_ h22_ h23_
                have HO271 := n0_
                have HO275 := n1_
                have HO281 := n2_
                have HO284 := n3_
                have HO_267000 := n4_
                have BK261 := n5_
                have BK266 := n6_
                have BK268 := n7_
                have BK272 := n8_
                have BK278 := n9_
                have BK287 := n10_
                have GW287 := n11_
                have GE287 := n12_
                have NB261_287 := n13_
                have NB287_261 := n14_
                have NB266_287 := n15_
                have NB287_266 := n16_
                have NB268_287 := n17_
                have NB287_268 := n18_
                have NB272_287 := n19_
                have NB287_272 := n20_
                have NB278_287 := n21_
                have NB287_278 := n22_
                have HB := n23_
                clear n0_ n1_ n2_ n3_ n4_ n5_ n6_ n7_ n8_ n9_ n10_ n11_ n12_ n13_ n14_ n15_ n16_ n17_ n18_ n19_ n20_ n21_ n22_ n23_
                have hHeld : w57.cell? ⟨gb268, 0, none⟩ = some (.int .i64 ((rd_T36 l1 x22_1).f0)) ∧ w57.cell? ⟨gb268, 1, none⟩ = some (.int .i64 ((rd_T36 l1 x22_1).f1)) ∧ w57.cell? ⟨gb268, 2, none⟩ = some (.int .i64 ((rd_T36 l1 x22_1).f2)) ∧ w57.cell? ⟨gb268, 3, none⟩ = some (.int .i64 ((rd_T36 l1 x22_1).f3)) ∧ w57.cell? ⟨gb268, 4, none⟩ = some (.int .u32 ((rd_T36 l1 x22_1).f4)) ∧ w57.cell? ⟨gb272, 0, none⟩ = some (.slice Ao36 t269.length co36) := hS_
                obtain ⟨Ao58, co58, eo58⟩ := Kd.R_slice HO284.out
                (first | subst eo58 | (injection eo58 with f1_ f2_ f3_; have f4_ := f1_.symm; have f5_ := f3_.symm; clear f1_ f2_ f3_; subst f4_; subst f5_))
                refine norm_ (a' := ?_) ?_ ?_
                rotate_left
                · simp only [putAll, Act.put, List.setIfInBounds_toArray, List.set_cons_zero, List.set_cons_succ]
                  rfl
                refine one_ (i := 9) (N := none) #[true, true, true, true, true, true, true, true, true, true, false, false] rfl rfl (one_of HT_.out (by kernel_rfl)) (by decide) (fun K hK => ?_)
                have hs59 : w57.cell? ⟨gb287, 0, none⟩ = some (.slice none 0 0) := (blk_cell BK287.out 0).trans rfl
                have hfs59 := blk_frozen BK287.out 0
                have hns59_0 := NB261_287.out
                have hns59_1 := NB266_287.out
                have hns59_2 := NB268_287.out
                have hns59_3 := NB272_287.out
                have hns59_4 := NB278_287.out
                have hms59_0 := NB287_261.out
                have hms59_1 := NB287_266.out
                have hms59_2 := NB287_268.out
                have hms59_3 := NB287_272.out
                have hms59_4 := NB287_278.out
                refine skip_ (w1 := ?_) (by rfl) rfl ?_ ?_
                rotate_left
                · go_simp
                  rfl
                refine hK.out _ _ ⟨((cell_far (p := ⟨gb287, _, none⟩) NB268_287.out _).trans (hHeld.1)), ((cell_far (p := ⟨gb287, _, none⟩) NB268_287.out _).trans (hHeld.2.1)), ((cell_far (p := ⟨gb287, _, none⟩) NB268_287.out _).trans (hHeld.2.2.1)), ((cell_far (p := ⟨gb287, _, none⟩) NB268_287.out _).trans (hHeld.2.2.2.1)), ((cell_far (p := ⟨gb287, _, none⟩) NB268_287.out _).trans (hHeld.2.2.2.2.1)), ((cell_far (p := ⟨gb287, _, none⟩) NB272_287.out _).trans (hHeld.2.2.2.2.2))⟩ (fun hHeld => ?_)
                clear hK K
                refine pure_ (i := 10) (N := some 13) (v := ?_) (a' := ?_) #[true, true, true, true, true, true, true, true, true, true, true, false] rfl rfl (any_of HT_.out (by kernel_rfl)) (fun _ _ _ h => h) (Or.inl ⟨by rfl, ?_⟩) ?_ ?_
                rotate_left
                · intro w'
                  go_simp
                  with_reducible rfl
                rotate_left
                · simp only [Act.put, List.setIfInBounds_toArray, List.set_cons_zero, List.set_cons_succ, i64_w, i32_w]
                  rfl
                refine pure_ (i := 11) (N := some 14) (v := ?_) (a' := ?_) #[true, true, true, true, true, true, true, true, true, true, true, true] rfl rfl (any_of HT_.out (by kernel_rfl)) (fun _ _ _ h => h) (Or.inl ⟨by rfl, ?_⟩) ?_ ?_
                rotate_left
                · intro w'
                  go_simp
                  with_reducible rfl
                rotate_left
                · simp only [Act.put, List.setIfInBounds_toArray, List.set_cons_zero, List.set_cons_succ, i64_w, i32_w]
                  rfl
                refine done_ (done_of HT_.out (by kernel_rfl)) ?_
                go_upto_region 11 with (fail)
                go_cut [65] (fun v65 wc => ∃ (kq : Nat) (x65_25 : Bool), v65 = .bool x65_25 ∧ Aside0 (mainsheetlaw08_PoolDoes.j1 kq t277 l1 (l1.length : Int) x22_1 x65_25 x267000_1 t269 t273 t282 = some r) ∧ Aside0 (kq ≤ k1) ∧ Aside0 (Kd.R (Kd.int .u32) 31 wc w.heap.size (fun k_ => some k_ ≠ ((.slice Ao36 t269.length co36) : Value).ownBlock ∧ some k_ ≠ ((.slice Ao45 t273.length co45) : Value).ownBlock ∧ some k_ ≠ ((.slice Ao58 t282.length co58) : Value).ownBlock) (.slice Ao33 x267000_1.length co33) x267000_1) ∧ Aside0 (Kd.R (Kd.int .u32) 31 wc w.heap.size (fun k_ => some k_ ≠ ((.slice Ao33 x267000_1.length co33) : Value).ownBlock ∧ some k_ ≠ ((.slice Ao45 t273.length co45) : Value).ownBlock ∧ some k_ ≠ ((.slice Ao58 t282.length co58) : Value).ownBlock) (.slice Ao36 t269.length co36) t269) ∧ Aside0 (Kd.R (Kd.int .u32) 31 wc w.heap.size (fun k_ => some k_ ≠ ((.slice Ao33 x267000_1.length co33) : Value).ownBlock ∧ some k_ ≠ ((.slice Ao36 t269.length co36) : Value).ownBlock ∧ some k_ ≠ ((.slice Ao58 t282.length co58) : Value).ownBlock) (.slice Ao45 t273.length co45) t273) ∧ Aside0 (Kd.R (Kd.int .u32) 31 wc w.heap.size (fun k_ => some k_ ≠ ((.slice Ao33 x267000_1.length co33) : Value).ownBlock ∧ some k_ ≠ ((.slice Ao36 t269.length co36) : Value).ownBlock ∧ some k_ ≠ ((.slice Ao45 t273.length co45) : Value).ownBlock) (.slice Ao58 t282.length co58) t282) ∧ Aside0 (wc.heap[gb261]? = some (.cells #[(.slice A0_0 l0_0.length c0_0)] 26 (0, 0))) ∧ Aside0 (wc.heap[gb266]? = some (.cells #[(.slice Ao33 x267000_1.length co33)] 26 (0, 0))) ∧ Aside0 (wc.heap[gb268]? = some (.cells #[.int .i64 ((rd_T36 l1 x22_1).f0), .int .i64 ((rd_T36 l1 x22_1).f1), .int .i64 ((rd_T36 l1 x22_1).f2), .int .i64 ((rd_T36 l1 x22_1).f3), .int .u32 ((rd_T36 l1 x22_1).f4)] 36 (0, 0))) ∧ Aside0 (wc.heap[gb272]? = some (.cells #[(.slice Ao36 t269.length co36)] 26 (0, 0))) ∧ Aside0 (wc.heap[gb278]? = some (.cells #[(.slice Ao45 t273.length co45)] 26 (0, 0))) ∧ Aside0 (wc.heap[gb287]? = some (.cells #[(.slice Ao58 t282.length co58)] 26 (0, 0))) ∧ Aside0 (Below w.heap.size w wc))
                case first =>
                  have H := HC26.out
                  clear HC26
                  by_cases c60 : t277 = t286
                  · rw [if_pos c60] at H
                    have c60b0 : (t277 == t286) = true := beq_iff_eq.mpr c60
                    have c60b1 : (t277 != t286) = false := bne_eq_false_iff_eq.mpr c60
                    clear c60
                    (first | rw [c60b0] | (simp only [i64_w, i32_w]; rw [c60b0]) | skip)
                    by_cases c61 : t276 = t285
                    · rw [if_pos c61] at H
                      have c61b0 : (t276 == t285) = true := beq_iff_eq.mpr c61
                      have c61b1 : (t276 != t285) = false := bne_eq_false_iff_eq.mpr c61
                      clear c61
                      replace H := Option.bind_eq_some_iff.mp H
                      obtain ⟨t288, A620, H⟩ := H
                      replace H : (if t288 = true then ((mainsheetref08_Same.f k1 x267000_1 t269).bind fun t289 => (mainsheetlaw08_PoolDoes.j1 k1 t277 l1 (l1.length : Int) x22_1 (!t289) x267000_1 t269 t273 t282)) else (mainsheetlaw08_PoolDoes.j1 k1 t277 l1 (l1.length : Int) x22_1 true x267000_1 t269 t273 t282)) = some r := H
                      have A62 := Aside0.mk A620
                      clear A620
                      by_cases c63 : t288 = true
                      · subst c63
                        have H1 : ((mainsheetref08_Same.f k1 x267000_1 t269).bind fun t289 => (mainsheetlaw08_PoolDoes.j1 k1 t277 l1 (l1.length : Int) x22_1 (!t289) x267000_1 t269 t273 t282)) = some r := by rw [if_pos rfl] at H; exact H
                        clear H
                        have H := H1
                        clear H1
                        replace H := Option.bind_eq_some_iff.mp H
                        obtain ⟨t289, A640, H⟩ := H
                        replace H : (mainsheetlaw08_PoolDoes.j1 k1 t277 l1 (l1.length : Int) x22_1 (!t289) x267000_1 t269 t273 t282) = some r := H
                        have A64 := Aside0.mk A640
                        clear A640
                        have H' := Aside0.mk H
                        clear H
                        have hnb65 := NB278_261.out
                        have hnc65 := NB261_278.out
                        have hnb66 := NB278_266.out
                        have hnc66 := NB266_278.out
                        have hnb67 := NB278_268.out
                        have hnc67 := NB268_278.out
                        have hnb68 := NB278_272.out
                        have hnc68 := NB272_278.out
                        have hnb69 := NB278_287.out
                        have hnc69 := NB287_278.out
                        have hcz70_0 : w57.cell? ⟨gb278, 0, none⟩ = some (.slice Ao45 t273.length co45) := (blk_cell BK278.out 0).trans rfl
                        have hfz70_0 := blk_frozen BK278.out 0
                        have hnb71 := NB287_261.out
                        have hnc71 := NB261_287.out
                        have hnb72 := NB287_266.out
                        have hnc72 := NB266_287.out
                        have hnb73 := NB287_268.out
                        have hnc73 := NB268_287.out
                        have hnb74 := NB287_272.out
                        have hnc74 := NB272_287.out
                        have hcz75_0 : w57.cell? ⟨gb287, 0, none⟩ = some (.slice none 0 0) := (blk_cell BK287.out 0).trans rfl
                        have hfz75_0 := blk_frozen BK287.out 0
                        go_wp2_with (first | (go_at_call 14; (with_reducible refine (mainsheetref08_Same.calls k1 _ _ t273 _ _ t282 true _ ?side1 ?side2 ?side3 ?side4 A62.out).mono ?_); (case side1 => refine (Kd.R_reads' (e := 31) (base := w.heap.size) (ok := fun k_ => (some k_ ≠ (.slice Ao36 t269.length co36 : Value).ownBlock ∧ (some k_ ≠ (v280 : Value).ownBlock ∧ (some k_ ≠ (.slice Ao58 t282.length co58 : Value).ownBlock ∧ some k_ ≠ (.slice Ao33 x267000_1.length co33 : Value).ownBlock)))) (n := t273.length) (c := co45) ?_).2.2; exact (by (with_reducible repeat (first | apply Kd.R_alloc | apply Kd.R_drewN | apply Kd.R_drew)); exact (Kd.R_mono (Kd.R_far (p := ⟨gb287, 0, none⟩) (Kd.R_types HO275.out BK287.out (by decide)) (fun _ hk => hk.2) (.slice Ao58 t282.length co58)) (fun _ h_ => h_.1)))); (case side2 => exact (Kd.R_reads' HO275.out).2.1); (case side3 => refine (Kd.R_reads' (e := 31) (base := w.heap.size) (ok := fun k_ => (some k_ ≠ (.slice Ao36 t269.length co36 : Value).ownBlock ∧ (some k_ ≠ (.slice Ao45 t273.length co45 : Value).ownBlock ∧ (some k_ ≠ (v280 : Value).ownBlock ∧ some k_ ≠ (.slice Ao33 x267000_1.length co33 : Value).ownBlock)))) (n := t282.length) (c := co58) ?_).2.2; exact (by (with_reducible repeat (first | apply Kd.R_alloc | apply Kd.R_drewN | apply Kd.R_drew)); exact (Kd.R_mono (Kd.R_far (p := ⟨gb287, 0, none⟩) (Kd.R_types HO284.out BK287.out (by decide)) (fun _ hk => hk.2) (.slice Ao58 t282.length co58)) (fun _ h_ => h_.1)))); (case side4 => exact (Kd.R_reads' HO284.out).2.1); rintro e w76 ⟨rfl, hb⟩; have n0_ := Aside0.mk (Kd.R_below (by (with_reducible repeat (first | apply Kd.R_alloc | apply Kd.R_drewN | apply Kd.R_drew)); exact (Kd.R_mono (Kd.R_far (p := ⟨gb287, 0, none⟩) (Kd.R_types HO_267000.out BK287.out (by decide)) (fun _ hk => hk.2) (.slice Ao58 t282.length co58)) (fun _ h_ => h_.1))) hb); have n1_ := Aside0.mk (Kd.R_below (by (with_reducible repeat (first | apply Kd.R_alloc | apply Kd.R_drewN | apply Kd.R_drew)); exact (Kd.R_mono (Kd.R_far (p := ⟨gb287, 0, none⟩) (Kd.R_types HO271.out BK287.out (by decide)) (fun _ hk => hk.2) (.slice Ao58 t282.length co58)) (fun _ h_ => h_.1))) hb); have n2_ := Aside0.mk (Kd.R_below (by (with_reducible repeat (first | apply Kd.R_alloc | apply Kd.R_drewN | apply Kd.R_drew)); exact (Kd.R_mono (Kd.R_far (p := ⟨gb287, 0, none⟩) (Kd.R_types HO275.out BK287.out (by decide)) (fun _ hk => hk.2) (.slice Ao58 t282.length co58)) (fun _ h_ => h_.1))) hb); have n3_ := Aside0.mk (Kd.R_below (by (with_reducible repeat (first | apply Kd.R_alloc | apply Kd.R_drewN | apply Kd.R_drew)); exact (Kd.R_mono (Kd.R_far (p := ⟨gb287, 0, none⟩) (Kd.R_types HO281.out BK287.out (by decide)) (fun _ hk => hk.2) (.slice Ao58 t282.length co58)) (fun _ h_ => h_.1))) hb); have n4_ := Aside0.mk (Kd.R_below (by (with_reducible repeat (first | apply Kd.R_alloc | apply Kd.R_drewN | apply Kd.R_drew)); exact (Kd.R_mono (Kd.R_far (p := ⟨gb287, 0, none⟩) (Kd.R_types HO284.out BK287.out (by decide)) (fun _ hk => hk.2) (.slice Ao58 t282.length co58)) (fun _ h_ => h_.1))) hb); have n5_ := Aside0.mk (blk_below (g := gb261) (o := .cells #[.slice A0_0 l0_0.length c0_0] 26 (0, 0)) (by (with_reducible repeat (first | refine blk_drewN ?_ _ | refine blk_drew ?_ | refine blk_alloc ?_ _)); refine blk_far ?_ NB261_287.out _; (with_reducible repeat (first | refine blk_drewN ?_ _ | refine blk_drew ?_ | refine blk_alloc ?_ _)); exact BK261.out) hb); have n6_ := Aside0.mk (blk_below (g := gb266) (o := .cells #[.slice Ao33 x267000_1.length co33] 26 (0, 0)) (by (with_reducible repeat (first | refine blk_drewN ?_ _ | refine blk_drew ?_ | refine blk_alloc ?_ _)); refine blk_far ?_ NB266_287.out _; (with_reducible repeat (first | refine blk_drewN ?_ _ | refine blk_drew ?_ | refine blk_alloc ?_ _)); exact BK266.out) hb); have n7_ := Aside0.mk (blk_below (g := gb268) (o := .cells #[.int .i64 ((rd_T36 l1 x22_1).f0), .int .i64 ((rd_T36 l1 x22_1).f1), .int .i64 ((rd_T36 l1 x22_1).f2), .int .i64 ((rd_T36 l1 x22_1).f3), .int .u32 ((rd_T36 l1 x22_1).f4)] 36 (0, 0)) (by (with_reducible repeat (first | refine blk_drewN ?_ _ | refine blk_drew ?_ | refine blk_alloc ?_ _)); refine blk_far ?_ NB268_287.out _; (with_reducible repeat (first | refine blk_drewN ?_ _ | refine blk_drew ?_ | refine blk_alloc ?_ _)); exact BK268.out) hb); have n8_ := Aside0.mk (blk_below (g := gb272) (o := .cells #[.slice Ao36 t269.length co36] 26 (0, 0)) (by (with_reducible repeat (first | refine blk_drewN ?_ _ | refine blk_drew ?_ | refine blk_alloc ?_ _)); refine blk_far ?_ NB272_287.out _; (with_reducible repeat (first | refine blk_drewN ?_ _ | refine blk_drew ?_ | refine blk_alloc ?_ _)); exact BK272.out) hb); have n9_ := Aside0.mk (blk_below (g := gb278) (o := .cells #[.slice Ao45 t273.length co45] 26 (0, 0)) (by (with_reducible repeat (first | refine blk_drewN ?_ _ | refine blk_drew ?_ | refine blk_alloc ?_ _)); refine blk_far ?_ NB278_287.out _; (with_reducible repeat (first | refine blk_drewN ?_ _ | refine blk_drew ?_ | refine blk_alloc ?_ _)); exact BK278.out) hb); have n10_ := Aside0.mk (blk_below (g := gb287) (o := .cells #[.slice Ao58 t282.length co58] 26 (0, 0)) (by (with_reducible repeat (first | refine blk_drewN ?_ _ | refine blk_drew ?_ | refine blk_alloc ?_ _)); refine blk_put (cs := #[.slice none 0 0]) ?_ 0 _ rfl; (with_reducible repeat (first | refine blk_drewN ?_ _ | refine blk_drew ?_ | refine blk_alloc ?_ _)); exact BK287.out) hb); have n11_ := Aside0.mk (below_step (by repeat (first | (with_reducible first | exact HB.out | apply below_alloc | apply pw_below_drewN | apply below_drew1 | refine below_set ?_ GE261.out | refine below_set ?_ GE266.out | refine below_set ?_ GE268.out | refine below_set ?_ GE272.out | refine below_set ?_ GE278.out | refine below_set ?_ GE287.out) | exact HB.out)) hb); clear HO_267000; clear HO271; clear HO275; clear HO281; clear HO284; clear BK261; clear BK266; clear BK268; clear BK272; clear BK278; clear BK287; clear HB; have HO_267000 := n0_; have HO271 := n1_; have HO275 := n2_; have HO281 := n3_; have HO284 := n4_; have BK261 := n5_; have BK266 := n6_; have BK268 := n7_; have BK272 := n8_; have BK278 := n9_; have BK287 := n10_; have HB := n11_; clear n0_ n1_ n2_ n3_ n4_ n5_ n6_ n7_ n8_ n9_ n10_ n11_; (try clear hb); (try clear hb2); (try clear hk); (try clear hi); have hnb77 := NB266_261.out; have hnc77 := NB261_266.out; have hnb78 := NB266_268.out; have hnc78 := NB268_266.out; have hnb79 := NB266_272.out; have hnc79 := NB272_266.out; have hcz80_0 : w76.cell? ⟨gb266, 0, none⟩ = some (.slice Ao33 x267000_1.length co33) := (blk_cell BK266.out 0).trans rfl; have hfz80_0 := blk_frozen BK266.out 0; have hnb81 := NB272_261.out; have hnc81 := NB261_272.out; have hnb82 := NB272_268.out; have hnc82 := NB268_272.out; have hcz83_0 : w76.cell? ⟨gb272, 0, none⟩ = some (.slice Ao36 t269.length co36) := (blk_cell BK272.out 0).trans rfl; have hfz83_0 := blk_frozen BK272.out 0) | (go_at_call 14; (with_reducible refine (mainsheetref08_Same.calls k1 _ _ x267000_1 _ _ t269 t289 _ ?side1 ?side2 ?side3 ?side4 A64.out).mono ?_); (case side1 => repeat (first | exact (Kd.R_reads' HO_267000.out).2.2 | (with_reducible refine Kd.C_alloc ?_ _) | (with_reducible refine Kd.C_drewN ?_ _) | (with_reducible refine Kd.C_drew ?_))); (case side2 => exact (Kd.R_reads' HO_267000.out).2.1); (case side3 => repeat (first | exact (Kd.R_reads' HO271.out).2.2 | (with_reducible refine Kd.C_alloc ?_ _) | (with_reducible refine Kd.C_drewN ?_ _) | (with_reducible refine Kd.C_drew ?_))); (case side4 => exact (Kd.R_reads' HO271.out).2.1); rintro e w84 ⟨rfl, hb⟩; have n0_ := Aside0.mk (Kd.R_below (by (with_reducible repeat (first | apply Kd.R_alloc | apply Kd.R_drewN | apply Kd.R_drew)); exact HO_267000.out) hb); have n1_ := Aside0.mk (Kd.R_below (by (with_reducible repeat (first | apply Kd.R_alloc | apply Kd.R_drewN | apply Kd.R_drew)); exact HO271.out) hb); have n2_ := Aside0.mk (Kd.R_below (by (with_reducible repeat (first | apply Kd.R_alloc | apply Kd.R_drewN | apply Kd.R_drew)); exact HO275.out) hb); have n3_ := Aside0.mk (Kd.R_below (by (with_reducible repeat (first | apply Kd.R_alloc | apply Kd.R_drewN | apply Kd.R_drew)); exact HO281.out) hb); have n4_ := Aside0.mk (Kd.R_below (by (with_reducible repeat (first | apply Kd.R_alloc | apply Kd.R_drewN | apply Kd.R_drew)); exact HO284.out) hb); have n5_ := Aside0.mk (blk_below (g := gb261) (o := .cells #[.slice A0_0 l0_0.length c0_0] 26 (0, 0)) (by (with_reducible repeat (first | refine blk_drewN ?_ _ | refine blk_drew ?_ | refine blk_alloc ?_ _)); exact BK261.out) hb); have n6_ := Aside0.mk (blk_below (g := gb266) (o := .cells #[.slice Ao33 x267000_1.length co33] 26 (0, 0)) (by (with_reducible repeat (first | refine blk_drewN ?_ _ | refine blk_drew ?_ | refine blk_alloc ?_ _)); exact BK266.out) hb); have n7_ := Aside0.mk (blk_below (g := gb268) (o := .cells #[.int .i64 ((rd_T36 l1 x22_1).f0), .int .i64 ((rd_T36 l1 x22_1).f1), .int .i64 ((rd_T36 l1 x22_1).f2), .int .i64 ((rd_T36 l1 x22_1).f3), .int .u32 ((rd_T36 l1 x22_1).f4)] 36 (0, 0)) (by (with_reducible repeat (first | refine blk_drewN ?_ _ | refine blk_drew ?_ | refine blk_alloc ?_ _)); exact BK268.out) hb); have n8_ := Aside0.mk (blk_below (g := gb272) (o := .cells #[.slice Ao36 t269.length co36] 26 (0, 0)) (by (with_reducible repeat (first | refine blk_drewN ?_ _ | refine blk_drew ?_ | refine blk_alloc ?_ _)); exact BK272.out) hb); have n9_ := Aside0.mk (blk_below (g := gb278) (o := .cells #[.slice Ao45 t273.length co45] 26 (0, 0)) (by (with_reducible repeat (first | refine blk_drewN ?_ _ | refine blk_drew ?_ | refine blk_alloc ?_ _)); exact BK278.out) hb); have n10_ := Aside0.mk (blk_below (g := gb287) (o := .cells #[.slice Ao58 t282.length co58] 26 (0, 0)) (by (with_reducible repeat (first | refine blk_drewN ?_ _ | refine blk_drew ?_ | refine blk_alloc ?_ _)); exact BK287.out) hb); have n11_ := Aside0.mk (below_step (by repeat (first | (with_reducible first | exact HB.out | apply below_alloc | apply pw_below_drewN | apply below_drew1 | refine below_set ?_ GE261.out | refine below_set ?_ GE266.out | refine below_set ?_ GE268.out | refine below_set ?_ GE272.out | refine below_set ?_ GE278.out | refine below_set ?_ GE287.out) | exact HB.out)) hb); clear HO_267000; clear HO271; clear HO275; clear HO281; clear HO284; clear BK261; clear BK266; clear BK268; clear BK272; clear BK278; clear BK287; clear HB; have HO_267000 := n0_; have HO271 := n1_; have HO275 := n2_; have HO281 := n3_; have HO284 := n4_; have BK261 := n5_; have BK266 := n6_; have BK268 := n7_; have BK272 := n8_; have BK278 := n9_; have BK287 := n10_; have HB := n11_; clear n0_ n1_ n2_ n3_ n4_ n5_ n6_ n7_ n8_ n9_ n10_ n11_; (try clear hb); (try clear hb2); (try clear hk); (try clear hi)))
                        go_meet
                        case rel => exact ⟨_, (!t289), (by first | rfl | (simp; done) | (simp [*]; done)), H', ⟨by have := HK1.out; first | omega | exact Nat.le_refl _⟩, ⟨by (with_reducible repeat (first | apply Kd.R_alloc | apply Kd.R_drewN | apply Kd.R_drew)); exact Kd.R_mono HO_267000.out (fun _ hk => ⟨hk.1, ⟨hk.2.1, hk.2.2.2⟩⟩)⟩, ⟨by (with_reducible repeat (first | apply Kd.R_alloc | apply Kd.R_drewN | apply Kd.R_drew)); exact Kd.R_mono HO271.out (fun _ hk => ⟨hk.2.2.2, ⟨hk.1, hk.2.2.1⟩⟩)⟩, ⟨by (with_reducible repeat (first | apply Kd.R_alloc | apply Kd.R_drewN | apply Kd.R_drew)); exact Kd.R_mono HO275.out (fun _ hk => ⟨hk.2.2.2, ⟨hk.1, hk.2.2.1⟩⟩)⟩, ⟨by (with_reducible repeat (first | apply Kd.R_alloc | apply Kd.R_drewN | apply Kd.R_drew)); exact Kd.R_mono HO284.out (fun _ hk => ⟨hk.2.2.2, ⟨hk.1, hk.2.1⟩⟩)⟩, ⟨by (with_reducible repeat (first | refine blk_drewN ?_ _ | refine blk_drew ?_ | refine blk_alloc ?_ _)); exact BK261.out⟩, ⟨by (with_reducible repeat (first | refine blk_drewN ?_ _ | refine blk_drew ?_ | refine blk_alloc ?_ _)); exact BK266.out⟩, ⟨by (with_reducible repeat (first | refine blk_drewN ?_ _ | refine blk_drew ?_ | refine blk_alloc ?_ _)); exact BK268.out⟩, ⟨by (with_reducible repeat (first | refine blk_drewN ?_ _ | refine blk_drew ?_ | refine blk_alloc ?_ _)); exact BK272.out⟩, ⟨by (with_reducible repeat (first | refine blk_drewN ?_ _ | refine blk_drew ?_ | refine blk_alloc ?_ _)); exact BK278.out⟩, ⟨by (with_reducible repeat (first | refine blk_drewN ?_ _ | refine blk_drew ?_ | refine blk_alloc ?_ _)); exact BK287.out⟩, ⟨by repeat (first | (with_reducible first | exact HB.out | apply below_alloc | apply pw_below_drewN | apply below_drew1 | refine below_set ?_ GE261.out | refine below_set ?_ GE266.out | refine below_set ?_ GE268.out | refine below_set ?_ GE272.out | refine below_set ?_ GE278.out | refine below_set ?_ GE287.out) | exact HB.out)⟩⟩
                      · replace c63 := Bool.eq_false_iff.mpr c63
                        subst c63
                        have H1 : (mainsheetlaw08_PoolDoes.j1 k1 t277 l1 (l1.length : Int) x22_1 true x267000_1 t269 t273 t282) = some r := by rw [if_neg (show ¬ (false = true) by decide)] at H; exact H
                        clear H
                        have H := H1
                        clear H1
                        have H' := Aside0.mk H
                        clear H
                        have hnb85 := NB278_261.out
                        have hnc85 := NB261_278.out
                        have hnb86 := NB278_266.out
                        have hnc86 := NB266_278.out
                        have hnb87 := NB278_268.out
                        have hnc87 := NB268_278.out
                        have hnb88 := NB278_272.out
                        have hnc88 := NB272_278.out
                        have hnb89 := NB278_287.out
                        have hnc89 := NB287_278.out
                        have hcz90_0 : w57.cell? ⟨gb278, 0, none⟩ = some (.slice Ao45 t273.length co45) := (blk_cell BK278.out 0).trans rfl
                        have hfz90_0 := blk_frozen BK278.out 0
                        have hnb91 := NB287_261.out
                        have hnc91 := NB261_287.out
                        have hnb92 := NB287_266.out
                        have hnc92 := NB266_287.out
                        have hnb93 := NB287_268.out
                        have hnc93 := NB268_287.out
                        have hnb94 := NB287_272.out
                        have hnc94 := NB272_287.out
                        have hcz95_0 : w57.cell? ⟨gb287, 0, none⟩ = some (.slice none 0 0) := (blk_cell BK287.out 0).trans rfl
                        have hfz95_0 := blk_frozen BK287.out 0
                        go_wp2_with (first | (go_at_call 14; (with_reducible refine (mainsheetref08_Same.calls k1 _ _ t273 _ _ t282 false _ ?side1 ?side2 ?side3 ?side4 A62.out).mono ?_); (case side1 => refine (Kd.R_reads' (e := 31) (base := w.heap.size) (ok := fun k_ => (some k_ ≠ (.slice Ao36 t269.length co36 : Value).ownBlock ∧ (some k_ ≠ (v280 : Value).ownBlock ∧ (some k_ ≠ (.slice Ao58 t282.length co58 : Value).ownBlock ∧ some k_ ≠ (.slice Ao33 x267000_1.length co33 : Value).ownBlock)))) (n := t273.length) (c := co45) ?_).2.2; exact (by (with_reducible repeat (first | apply Kd.R_alloc | apply Kd.R_drewN | apply Kd.R_drew)); exact (Kd.R_mono (Kd.R_far (p := ⟨gb287, 0, none⟩) (Kd.R_types HO275.out BK287.out (by decide)) (fun _ hk => hk.2) (.slice Ao58 t282.length co58)) (fun _ h_ => h_.1)))); (case side2 => exact (Kd.R_reads' HO275.out).2.1); (case side3 => refine (Kd.R_reads' (e := 31) (base := w.heap.size) (ok := fun k_ => (some k_ ≠ (.slice Ao36 t269.length co36 : Value).ownBlock ∧ (some k_ ≠ (.slice Ao45 t273.length co45 : Value).ownBlock ∧ (some k_ ≠ (v280 : Value).ownBlock ∧ some k_ ≠ (.slice Ao33 x267000_1.length co33 : Value).ownBlock)))) (n := t282.length) (c := co58) ?_).2.2; exact (by (with_reducible repeat (first | apply Kd.R_alloc | apply Kd.R_drewN | apply Kd.R_drew)); exact (Kd.R_mono (Kd.R_far (p := ⟨gb287, 0, none⟩) (Kd.R_types HO284.out BK287.out (by decide)) (fun _ hk => hk.2) (.slice Ao58 t282.length co58)) (fun _ h_ => h_.1)))); (case side4 => exact (Kd.R_reads' HO284.out).2.1); rintro e w96 ⟨rfl, hb⟩; have n0_ := Aside0.mk (Kd.R_below (by (with_reducible repeat (first | apply Kd.R_alloc | apply Kd.R_drewN | apply Kd.R_drew)); exact (Kd.R_mono (Kd.R_far (p := ⟨gb287, 0, none⟩) (Kd.R_types HO_267000.out BK287.out (by decide)) (fun _ hk => hk.2) (.slice Ao58 t282.length co58)) (fun _ h_ => h_.1))) hb); have n1_ := Aside0.mk (Kd.R_below (by (with_reducible repeat (first | apply Kd.R_alloc | apply Kd.R_drewN | apply Kd.R_drew)); exact (Kd.R_mono (Kd.R_far (p := ⟨gb287, 0, none⟩) (Kd.R_types HO271.out BK287.out (by decide)) (fun _ hk => hk.2) (.slice Ao58 t282.length co58)) (fun _ h_ => h_.1))) hb); have n2_ := Aside0.mk (Kd.R_below (by (with_reducible repeat (first | apply Kd.R_alloc | apply Kd.R_drewN | apply Kd.R_drew)); exact (Kd.R_mono (Kd.R_far (p := ⟨gb287, 0, none⟩) (Kd.R_types HO275.out BK287.out (by decide)) (fun _ hk => hk.2) (.slice Ao58 t282.length co58)) (fun _ h_ => h_.1))) hb); have n3_ := Aside0.mk (Kd.R_below (by (with_reducible repeat (first | apply Kd.R_alloc | apply Kd.R_drewN | apply Kd.R_drew)); exact (Kd.R_mono (Kd.R_far (p := ⟨gb287, 0, none⟩) (Kd.R_types HO281.out BK287.out (by decide)) (fun _ hk => hk.2) (.slice Ao58 t282.length co58)) (fun _ h_ => h_.1))) hb); have n4_ := Aside0.mk (Kd.R_below (by (with_reducible repeat (first | apply Kd.R_alloc | apply Kd.R_drewN | apply Kd.R_drew)); exact (Kd.R_mono (Kd.R_far (p := ⟨gb287, 0, none⟩) (Kd.R_types HO284.out BK287.out (by decide)) (fun _ hk => hk.2) (.slice Ao58 t282.length co58)) (fun _ h_ => h_.1))) hb); have n5_ := Aside0.mk (blk_below (g := gb261) (o := .cells #[.slice A0_0 l0_0.length c0_0] 26 (0, 0)) (by (with_reducible repeat (first | refine blk_drewN ?_ _ | refine blk_drew ?_ | refine blk_alloc ?_ _)); refine blk_far ?_ NB261_287.out _; (with_reducible repeat (first | refine blk_drewN ?_ _ | refine blk_drew ?_ | refine blk_alloc ?_ _)); exact BK261.out) hb); have n6_ := Aside0.mk (blk_below (g := gb266) (o := .cells #[.slice Ao33 x267000_1.length co33] 26 (0, 0)) (by (with_reducible repeat (first | refine blk_drewN ?_ _ | refine blk_drew ?_ | refine blk_alloc ?_ _)); refine blk_far ?_ NB266_287.out _; (with_reducible repeat (first | refine blk_drewN ?_ _ | refine blk_drew ?_ | refine blk_alloc ?_ _)); exact BK266.out) hb); have n7_ := Aside0.mk (blk_below (g := gb268) (o := .cells #[.int .i64 ((rd_T36 l1 x22_1).f0), .int .i64 ((rd_T36 l1 x22_1).f1), .int .i64 ((rd_T36 l1 x22_1).f2), .int .i64 ((rd_T36 l1 x22_1).f3), .int .u32 ((rd_T36 l1 x22_1).f4)] 36 (0, 0)) (by (with_reducible repeat (first | refine blk_drewN ?_ _ | refine blk_drew ?_ | refine blk_alloc ?_ _)); refine blk_far ?_ NB268_287.out _; (with_reducible repeat (first | refine blk_drewN ?_ _ | refine blk_drew ?_ | refine blk_alloc ?_ _)); exact BK268.out) hb); have n8_ := Aside0.mk (blk_below (g := gb272) (o := .cells #[.slice Ao36 t269.length co36] 26 (0, 0)) (by (with_reducible repeat (first | refine blk_drewN ?_ _ | refine blk_drew ?_ | refine blk_alloc ?_ _)); refine blk_far ?_ NB272_287.out _; (with_reducible repeat (first | refine blk_drewN ?_ _ | refine blk_drew ?_ | refine blk_alloc ?_ _)); exact BK272.out) hb); have n9_ := Aside0.mk (blk_below (g := gb278) (o := .cells #[.slice Ao45 t273.length co45] 26 (0, 0)) (by (with_reducible repeat (first | refine blk_drewN ?_ _ | refine blk_drew ?_ | refine blk_alloc ?_ _)); refine blk_far ?_ NB278_287.out _; (with_reducible repeat (first | refine blk_drewN ?_ _ | refine blk_drew ?_ | refine blk_alloc ?_ _)); exact BK278.out) hb); have n10_ := Aside0.mk (blk_below (g := gb287) (o := .cells #[.slice Ao58 t282.length co58] 26 (0, 0)) (by (with_reducible repeat (first | refine blk_drewN ?_ _ | refine blk_drew ?_ | refine blk_alloc ?_ _)); refine blk_put (cs := #[.slice none 0 0]) ?_ 0 _ rfl; (with_reducible repeat (first | refine blk_drewN ?_ _ | refine blk_drew ?_ | refine blk_alloc ?_ _)); exact BK287.out) hb); have n11_ := Aside0.mk (below_step (by repeat (first | (with_reducible first | exact HB.out | apply below_alloc | apply pw_below_drewN | apply below_drew1 | refine below_set ?_ GE261.out | refine below_set ?_ GE266.out | refine below_set ?_ GE268.out | refine below_set ?_ GE272.out | refine below_set ?_ GE278.out | refine below_set ?_ GE287.out) | exact HB.out)) hb); clear HO_267000; clear HO271; clear HO275; clear HO281; clear HO284; clear BK261; clear BK266; clear BK268; clear BK272; clear BK278; clear BK287; clear HB; have HO_267000 := n0_; have HO271 := n1_; have HO275 := n2_; have HO281 := n3_; have HO284 := n4_; have BK261 := n5_; have BK266 := n6_; have BK268 := n7_; have BK272 := n8_; have BK278 := n9_; have BK287 := n10_; have HB := n11_; clear n0_ n1_ n2_ n3_ n4_ n5_ n6_ n7_ n8_ n9_ n10_ n11_; (try clear hb); (try clear hb2); (try clear hk); (try clear hi)))
                        go_meet
                        case rel => exact ⟨_, (true), (by first | rfl | (simp; done) | (simp [*]; done)), H', ⟨by have := HK1.out; first | omega | exact Nat.le_refl _⟩, ⟨by (with_reducible repeat (first | apply Kd.R_alloc | apply Kd.R_drewN | apply Kd.R_drew)); exact Kd.R_mono HO_267000.out (fun _ hk => ⟨hk.1, ⟨hk.2.1, hk.2.2.2⟩⟩)⟩, ⟨by (with_reducible repeat (first | apply Kd.R_alloc | apply Kd.R_drewN | apply Kd.R_drew)); exact Kd.R_mono HO271.out (fun _ hk => ⟨hk.2.2.2, ⟨hk.1, hk.2.2.1⟩⟩)⟩, ⟨by (with_reducible repeat (first | apply Kd.R_alloc | apply Kd.R_drewN | apply Kd.R_drew)); exact Kd.R_mono HO275.out (fun _ hk => ⟨hk.2.2.2, ⟨hk.1, hk.2.2.1⟩⟩)⟩, ⟨by (with_reducible repeat (first | apply Kd.R_alloc | apply Kd.R_drewN | apply Kd.R_drew)); exact Kd.R_mono HO284.out (fun _ hk => ⟨hk.2.2.2, ⟨hk.1, hk.2.1⟩⟩)⟩, ⟨by (with_reducible repeat (first | refine blk_drewN ?_ _ | refine blk_drew ?_ | refine blk_alloc ?_ _)); exact BK261.out⟩, ⟨by (with_reducible repeat (first | refine blk_drewN ?_ _ | refine blk_drew ?_ | refine blk_alloc ?_ _)); exact BK266.out⟩, ⟨by (with_reducible repeat (first | refine blk_drewN ?_ _ | refine blk_drew ?_ | refine blk_alloc ?_ _)); exact BK268.out⟩, ⟨by (with_reducible repeat (first | refine blk_drewN ?_ _ | refine blk_drew ?_ | refine blk_alloc ?_ _)); exact BK272.out⟩, ⟨by (with_reducible repeat (first | refine blk_drewN ?_ _ | refine blk_drew ?_ | refine blk_alloc ?_ _)); exact BK278.out⟩, ⟨by (with_reducible repeat (first | refine blk_drewN ?_ _ | refine blk_drew ?_ | refine blk_alloc ?_ _)); exact BK287.out⟩, ⟨by repeat (first | (with_reducible first | exact HB.out | apply below_alloc | apply pw_below_drewN | apply below_drew1 | refine below_set ?_ GE261.out | refine below_set ?_ GE266.out | refine below_set ?_ GE268.out | refine below_set ?_ GE272.out | refine below_set ?_ GE278.out | refine below_set ?_ GE287.out) | exact HB.out)⟩⟩
                    · rw [if_neg c61] at H
                      have c61b0 : (t276 == t285) = false := beq_eq_false_iff_ne.mpr c61
                      have c61b1 : (t276 != t285) = true := bne_iff_ne.mpr c61
                      have H' := Aside0.mk H
                      clear H
                      go_wp2
                      go_meet
                      case rel => exact ⟨_, (true), (by first | rfl | (simp; done) | (simp [*]; done)), H', ⟨by have := HK1.out; first | omega | exact Nat.le_refl _⟩, ⟨by (with_reducible repeat (first | apply Kd.R_alloc | apply Kd.R_drewN | apply Kd.R_drew)); exact Kd.R_mono (Kd.R_far (p := ⟨gb287, 0, none⟩) (Kd.R_types HO_267000.out BK287.out (by decide)) (fun _ hk => hk.2) (.slice Ao58 t282.length co58)) (fun _ hk => ⟨hk.1.1, ⟨hk.1.2.1, hk.1.2.2.2⟩⟩)⟩, ⟨by (with_reducible repeat (first | apply Kd.R_alloc | apply Kd.R_drewN | apply Kd.R_drew)); exact Kd.R_mono (Kd.R_far (p := ⟨gb287, 0, none⟩) (Kd.R_types HO271.out BK287.out (by decide)) (fun _ hk => hk.2) (.slice Ao58 t282.length co58)) (fun _ hk => ⟨hk.1.2.2.2, ⟨hk.1.1, hk.1.2.2.1⟩⟩)⟩, ⟨by (with_reducible repeat (first | apply Kd.R_alloc | apply Kd.R_drewN | apply Kd.R_drew)); exact Kd.R_mono (Kd.R_far (p := ⟨gb287, 0, none⟩) (Kd.R_types HO275.out BK287.out (by decide)) (fun _ hk => hk.2) (.slice Ao58 t282.length co58)) (fun _ hk => ⟨hk.1.2.2.2, ⟨hk.1.1, hk.1.2.2.1⟩⟩)⟩, ⟨by (with_reducible repeat (first | apply Kd.R_alloc | apply Kd.R_drewN | apply Kd.R_drew)); exact Kd.R_mono (Kd.R_far (p := ⟨gb287, 0, none⟩) (Kd.R_types HO284.out BK287.out (by decide)) (fun _ hk => hk.2) (.slice Ao58 t282.length co58)) (fun _ hk => ⟨hk.1.2.2.2, ⟨hk.1.1, hk.1.2.1⟩⟩)⟩, ⟨by (with_reducible repeat (first | refine blk_drewN ?_ _ | refine blk_drew ?_ | refine blk_alloc ?_ _)); refine blk_far ?_ NB261_287.out _; (with_reducible repeat (first | refine blk_drewN ?_ _ | refine blk_drew ?_ | refine blk_alloc ?_ _)); exact BK261.out⟩, ⟨by (with_reducible repeat (first | refine blk_drewN ?_ _ | refine blk_drew ?_ | refine blk_alloc ?_ _)); refine blk_far ?_ NB266_287.out _; (with_reducible repeat (first | refine blk_drewN ?_ _ | refine blk_drew ?_ | refine blk_alloc ?_ _)); exact BK266.out⟩, ⟨by (with_reducible repeat (first | refine blk_drewN ?_ _ | refine blk_drew ?_ | refine blk_alloc ?_ _)); refine blk_far ?_ NB268_287.out _; (with_reducible repeat (first | refine blk_drewN ?_ _ | refine blk_drew ?_ | refine blk_alloc ?_ _)); exact BK268.out⟩, ⟨by (with_reducible repeat (first | refine blk_drewN ?_ _ | refine blk_drew ?_ | refine blk_alloc ?_ _)); refine blk_far ?_ NB272_287.out _; (with_reducible repeat (first | refine blk_drewN ?_ _ | refine blk_drew ?_ | refine blk_alloc ?_ _)); exact BK272.out⟩, ⟨by (with_reducible repeat (first | refine blk_drewN ?_ _ | refine blk_drew ?_ | refine blk_alloc ?_ _)); refine blk_far ?_ NB278_287.out _; (with_reducible repeat (first | refine blk_drewN ?_ _ | refine blk_drew ?_ | refine blk_alloc ?_ _)); exact BK278.out⟩, ⟨by (with_reducible repeat (first | refine blk_drewN ?_ _ | refine blk_drew ?_ | refine blk_alloc ?_ _)); refine blk_put (cs := #[.slice none 0 0]) ?_ 0 _ rfl; (with_reducible repeat (first | refine blk_drewN ?_ _ | refine blk_drew ?_ | refine blk_alloc ?_ _)); exact BK287.out⟩, ⟨by repeat (first | (with_reducible first | exact HB.out | apply below_alloc | apply pw_below_drewN | apply below_drew1 | refine below_set ?_ GE261.out | refine below_set ?_ GE266.out | refine below_set ?_ GE268.out | refine below_set ?_ GE272.out | refine below_set ?_ GE278.out | refine below_set ?_ GE287.out) | exact HB.out)⟩⟩
                  · rw [if_neg c60] at H
                    have c60b0 : (t277 == t286) = false := beq_eq_false_iff_ne.mpr c60
                    have c60b1 : (t277 != t286) = true := bne_iff_ne.mpr c60
                    (first | rw [c60b0] | (simp only [i64_w, i32_w]; rw [c60b0]) | skip)
                    have H' := Aside0.mk H
                    clear H
                    go_wp2
                    go_meet
                    case rel => exact ⟨_, (true), (by first | rfl | (simp; done) | (simp [*]; done)), H', ⟨by have := HK1.out; first | omega | exact Nat.le_refl _⟩, ⟨by (with_reducible repeat (first | apply Kd.R_alloc | apply Kd.R_drewN | apply Kd.R_drew)); exact Kd.R_mono (Kd.R_far (p := ⟨gb287, 0, none⟩) (Kd.R_types HO_267000.out BK287.out (by decide)) (fun _ hk => hk.2) (.slice Ao58 t282.length co58)) (fun _ hk => ⟨hk.1.1, ⟨hk.1.2.1, hk.1.2.2.2⟩⟩)⟩, ⟨by (with_reducible repeat (first | apply Kd.R_alloc | apply Kd.R_drewN | apply Kd.R_drew)); exact Kd.R_mono (Kd.R_far (p := ⟨gb287, 0, none⟩) (Kd.R_types HO271.out BK287.out (by decide)) (fun _ hk => hk.2) (.slice Ao58 t282.length co58)) (fun _ hk => ⟨hk.1.2.2.2, ⟨hk.1.1, hk.1.2.2.1⟩⟩)⟩, ⟨by (with_reducible repeat (first | apply Kd.R_alloc | apply Kd.R_drewN | apply Kd.R_drew)); exact Kd.R_mono (Kd.R_far (p := ⟨gb287, 0, none⟩) (Kd.R_types HO275.out BK287.out (by decide)) (fun _ hk => hk.2) (.slice Ao58 t282.length co58)) (fun _ hk => ⟨hk.1.2.2.2, ⟨hk.1.1, hk.1.2.2.1⟩⟩)⟩, ⟨by (with_reducible repeat (first | apply Kd.R_alloc | apply Kd.R_drewN | apply Kd.R_drew)); exact Kd.R_mono (Kd.R_far (p := ⟨gb287, 0, none⟩) (Kd.R_types HO284.out BK287.out (by decide)) (fun _ hk => hk.2) (.slice Ao58 t282.length co58)) (fun _ hk => ⟨hk.1.2.2.2, ⟨hk.1.1, hk.1.2.1⟩⟩)⟩, ⟨by (with_reducible repeat (first | refine blk_drewN ?_ _ | refine blk_drew ?_ | refine blk_alloc ?_ _)); refine blk_far ?_ NB261_287.out _; (with_reducible repeat (first | refine blk_drewN ?_ _ | refine blk_drew ?_ | refine blk_alloc ?_ _)); exact BK261.out⟩, ⟨by (with_reducible repeat (first | refine blk_drewN ?_ _ | refine blk_drew ?_ | refine blk_alloc ?_ _)); refine blk_far ?_ NB266_287.out _; (with_reducible repeat (first | refine blk_drewN ?_ _ | refine blk_drew ?_ | refine blk_alloc ?_ _)); exact BK266.out⟩, ⟨by (with_reducible repeat (first | refine blk_drewN ?_ _ | refine blk_drew ?_ | refine blk_alloc ?_ _)); refine blk_far ?_ NB268_287.out _; (with_reducible repeat (first | refine blk_drewN ?_ _ | refine blk_drew ?_ | refine blk_alloc ?_ _)); exact BK268.out⟩, ⟨by (with_reducible repeat (first | refine blk_drewN ?_ _ | refine blk_drew ?_ | refine blk_alloc ?_ _)); refine blk_far ?_ NB272_287.out _; (with_reducible repeat (first | refine blk_drewN ?_ _ | refine blk_drew ?_ | refine blk_alloc ?_ _)); exact BK272.out⟩, ⟨by (with_reducible repeat (first | refine blk_drewN ?_ _ | refine blk_drew ?_ | refine blk_alloc ?_ _)); refine blk_far ?_ NB278_287.out _; (with_reducible repeat (first | refine blk_drewN ?_ _ | refine blk_drew ?_ | refine blk_alloc ?_ _)); exact BK278.out⟩, ⟨by (with_reducible repeat (first | refine blk_drewN ?_ _ | refine blk_drew ?_ | refine blk_alloc ?_ _)); refine blk_put (cs := #[.slice none 0 0]) ?_ 0 _ rfl; (with_reducible repeat (first | refine blk_drewN ?_ _ | refine blk_drew ?_ | refine blk_alloc ?_ _)); exact BK287.out⟩, ⟨by repeat (first | (with_reducible first | exact HB.out | apply below_alloc | apply pw_below_drewN | apply below_drew1 | refine below_set ?_ GE261.out | refine below_set ?_ GE266.out | refine below_set ?_ GE268.out | refine below_set ?_ GE272.out | refine below_set ?_ GE278.out | refine below_set ?_ GE287.out) | exact HB.out)⟩⟩
                case rest =>
                  clear HC26
                  try clear c1
                  try clear p2
                  try clear c6
                  try clear c7
                  try clear c8
                  try clear c9
                  try clear c11
                  try clear c13
                  try clear c60
                  try clear c60b0
                  try clear c60b1
                  try clear c61
                  try clear c61b0
                  try clear c61b1
                  try clear c63
                  try clear c65
                  try clear c66
                  try clear c67
                  try clear c68
                  try clear c69
                  try clear c71
                  try clear c72
                  try clear c73
                  try clear c74
                  try clear c77
                  try clear c78
                  try clear c79
                  try clear c81
                  try clear c82
                  try clear c85
                  try clear c86
                  try clear c87
                  try clear c88
                  try clear c89
                  try clear c91
                  try clear c92
                  try clear c93
                  try clear c94
                  try clear hcz70_0
                  try clear hcz75_0
                  try clear hcz80_0
                  try clear hcz83_0
                  try clear hcz90_0
                  try clear hcz95_0
                  try clear hfz70_0
                  try clear hfz75_0
                  try clear hfz80_0
                  try clear hfz83_0
                  try clear hfz90_0
                  try clear hfz95_0
                  obtain ⟨kq, x65_25, rfl, HA, HJ25, HO_267000, HO_273000, HO_279000, HO_288000, BK261, BK266, BK268, BK272, BK278, BK287, HB⟩ := hcut
                  cases kq with
                  | zero => exact absurd HA.out (by simp [mainsheetlaw08_PoolDoes.j1])
                  | succ kj25 =>
                    have H := HA.out
                    clear HA
                    simp only [mainsheetlaw08_PoolDoes.j1] at H
                    by_cases c97 : x65_25 = true
                    · subst c97
                      have H1 : (some false) = some r := by rw [if_pos rfl] at H; exact H
                      clear H
                      have H := H1
                      clear H1
                      obtain rfl := Option.some.inj H
                      go_wp2
                      go_ret
                      exact ⟨by first | rfl | (simp [errW_none, errW_some] <;> rfl) | (simp [*, errW_none, errW_some] <;> rfl), by repeat (first | (with_reducible first | exact HB.out | apply below_alloc | apply pw_below_drewN | apply below_drew1 | refine below_set ?_ GE261.out | refine below_set ?_ GE266.out | refine below_set ?_ GE268.out | refine below_set ?_ GE272.out | refine below_set ?_ GE278.out | refine below_set ?_ GE287.out) | exact HB.out)⟩
                    · replace c97 := Bool.eq_false_iff.mpr c97
                      subst c97
                      have H1 : ((mainsheetref08_Copy.f t282).bind fun t290 => (mainsheetlaw08_PoolDoes.l1 kj25 t277 l1 (l1.length : Int) x22_1 (t273.length : Int) 0 x267000_1 t269 t273 t290)) = some r := by rw [if_neg (show ¬ (false = true) by decide)] at H; exact H
                      clear H
                      have H := H1
                      clear H1
                      replace H := Option.bind_eq_some_iff.mp H
                      obtain ⟨t290, A980, H⟩ := H
                      replace H : (mainsheetlaw08_PoolDoes.l1 kj25 t277 l1 (l1.length : Int) x22_1 (t273.length : Int) 0 x267000_1 t269 t273 t290) = some r := H
                      have A98 := Aside0.mk A980
                      clear A980
                      have H' := Aside0.mk H
                      clear H
                      have hnb99 := NB287_261.out
                      have hnc99 := NB261_287.out
                      have hnb100 := NB287_266.out
                      have hnc100 := NB266_287.out
                      have hnb101 := NB287_268.out
                      have hnc101 := NB268_287.out
                      have hnb102 := NB287_272.out
                      have hnc102 := NB272_287.out
                      have hnb103 := NB287_278.out
                      have hnc103 := NB278_287.out
                      have hcz104_0 : wc.cell? ⟨gb287, 0, none⟩ = some (.slice Ao58 t282.length co58) := (blk_cell BK287.out 0).trans rfl
                      have hfz104_0 := blk_frozen BK287.out 0
                      go_wp2_with (first | ((with_reducible refine gate_callee (f := 15) rfl ?_); refine goesL_ (some 67) rfl rfl Try.func15 (by kernel_rfl) rfl #[.agg #[.slice Ao58 t282.length co58]] rfl (by (try simp only [List.map_toArray, List.map_cons, List.map_nil]); first | done | rfl | (simp only [List.length_drop, List.length_take]; rfl)) ?_; (with_reducible refine (mainsheetref08_Copy.calls _ _ t282 t290 _ ?side1 ?side2 A98.out).mono ?_); (case side1 => repeat (first | exact (Kd.R_reads' HO_288000.out).2.2 | (with_reducible refine Kd.C_alloc ?_ _) | (with_reducible refine Kd.C_drewN ?_ _) | (with_reducible refine Kd.C_drew ?_))); (case side2 => exact (Kd.R_reads' HO_288000.out).2.1); rintro e w105 ⟨v291, rfl, ho0, hb⟩; refine ⟨_, rfl, ?_⟩; have n0_ := Aside0.mk (Kd.R_elder' (by (with_reducible repeat (first | apply Kd.R_alloc | apply Kd.R_drewN | apply Kd.R_drew)); exact HO_267000.out) (Kd.R_base ho0) hb); have n1_ := Aside0.mk (Kd.R_elder' (by (with_reducible repeat (first | apply Kd.R_alloc | apply Kd.R_drewN | apply Kd.R_drew)); exact HO_273000.out) (Kd.R_base ho0) hb); have n2_ := Aside0.mk (Kd.R_elder' (by (with_reducible repeat (first | apply Kd.R_alloc | apply Kd.R_drewN | apply Kd.R_drew)); exact HO_279000.out) (Kd.R_base ho0) hb); have n3_ := Aside0.mk (Kd.R_elder' (by (with_reducible repeat (first | apply Kd.R_alloc | apply Kd.R_drewN | apply Kd.R_drew)); exact HO_288000.out) (Kd.R_base ho0) hb); have n4_ := Aside0.mk (Kd.R_lower (Kd.R_new' (Kd.R_new' (Kd.R_new' (Kd.R_new' ho0 (Kd.R_lt (by (with_reducible repeat (first | apply Kd.R_alloc | apply Kd.R_drewN | apply Kd.R_drew)); exact HO_267000.out))) (Kd.R_lt (by (with_reducible repeat (first | apply Kd.R_alloc | apply Kd.R_drewN | apply Kd.R_drew)); exact HO_273000.out))) (Kd.R_lt (by (with_reducible repeat (first | apply Kd.R_alloc | apply Kd.R_drewN | apply Kd.R_drew)); exact HO_279000.out))) (Kd.R_lt (by (with_reducible repeat (first | apply Kd.R_alloc | apply Kd.R_drewN | apply Kd.R_drew)); exact HO_288000.out))) (below_size (by repeat (first | (with_reducible first | exact HB.out | apply below_alloc | apply pw_below_drewN | apply below_drew1 | refine below_set ?_ GE261.out | refine below_set ?_ GE266.out | refine below_set ?_ GE268.out | refine below_set ?_ GE272.out | refine below_set ?_ GE278.out | refine below_set ?_ GE287.out) | exact HB.out)))); have n5_ := Aside0.mk (blk_below (g := gb261) (o := .cells #[.slice A0_0 l0_0.length c0_0] 26 (0, 0)) (by (with_reducible repeat (first | refine blk_drewN ?_ _ | refine blk_drew ?_ | refine blk_alloc ?_ _)); exact BK261.out) hb); have n6_ := Aside0.mk (blk_below (g := gb266) (o := .cells #[.slice Ao33 x267000_1.length co33] 26 (0, 0)) (by (with_reducible repeat (first | refine blk_drewN ?_ _ | refine blk_drew ?_ | refine blk_alloc ?_ _)); exact BK266.out) hb); have n7_ := Aside0.mk (blk_below (g := gb268) (o := .cells #[.int .i64 ((rd_T36 l1 x22_1).f0), .int .i64 ((rd_T36 l1 x22_1).f1), .int .i64 ((rd_T36 l1 x22_1).f2), .int .i64 ((rd_T36 l1 x22_1).f3), .int .u32 ((rd_T36 l1 x22_1).f4)] 36 (0, 0)) (by (with_reducible repeat (first | refine blk_drewN ?_ _ | refine blk_drew ?_ | refine blk_alloc ?_ _)); exact BK268.out) hb); have n8_ := Aside0.mk (blk_below (g := gb272) (o := .cells #[.slice Ao36 t269.length co36] 26 (0, 0)) (by (with_reducible repeat (first | refine blk_drewN ?_ _ | refine blk_drew ?_ | refine blk_alloc ?_ _)); exact BK272.out) hb); have n9_ := Aside0.mk (blk_below (g := gb278) (o := .cells #[.slice Ao45 t273.length co45] 26 (0, 0)) (by (with_reducible repeat (first | refine blk_drewN ?_ _ | refine blk_drew ?_ | refine blk_alloc ?_ _)); exact BK278.out) hb); have n10_ := Aside0.mk (blk_below (g := gb287) (o := .cells #[.slice Ao58 t282.length co58] 26 (0, 0)) (by (with_reducible repeat (first | refine blk_drewN ?_ _ | refine blk_drew ?_ | refine blk_alloc ?_ _)); exact BK287.out) hb); have n11_ := Aside0.mk (below_step (by repeat (first | (with_reducible first | exact HB.out | apply below_alloc | apply pw_below_drewN | apply below_drew1 | refine below_set ?_ GE261.out | refine below_set ?_ GE266.out | refine below_set ?_ GE268.out | refine below_set ?_ GE272.out | refine below_set ?_ GE278.out | refine below_set ?_ GE287.out) | exact HB.out)) hb); clear HO_267000; clear HO_273000; clear HO_279000; clear HO_288000; clear BK261; clear BK266; clear BK268; clear BK272; clear BK278; clear BK287; clear HB; have HO_267000 := n0_; have HO_273000 := n1_; have HO_279000 := n2_; have HO_288000 := n3_; have HO292 := n4_; have BK261 := n5_; have BK266 := n6_; have BK268 := n7_; have BK272 := n8_; have BK278 := n9_; have BK287 := n10_; have HB := n11_; clear n0_ n1_ n2_ n3_ n4_ n5_ n6_ n7_ n8_ n9_ n10_ n11_; (try clear hb); (try clear hb2); (try clear hk); (try clear hi); (try clear ho0); obtain ⟨Ao106, co106, eo106⟩ := Kd.R_slice HO292.out; subst eo106; have hcz107_0 : w105.cell? ⟨gb287, 0, none⟩ = some (.slice Ao58 t282.length co58) := (blk_cell BK287.out 0).trans rfl; have hfz107_0 := blk_frozen BK287.out 0; have hnb108 := NB278_261.out; have hnc108 := NB261_278.out; have hnb109 := NB278_266.out; have hnc109 := NB266_278.out; have hnb110 := NB278_268.out; have hnc110 := NB268_278.out; have hnb111 := NB278_272.out; have hnc111 := NB272_278.out; have hcz112_0 : w105.cell? ⟨gb278, 0, none⟩ = some (.slice Ao45 t273.length co45) := (blk_cell BK278.out 0).trans rfl; have hfz112_0 := blk_frozen BK278.out 0))
                      go_loopg [71] kj25 (fun kq v71 w' => ∃ (x71_3 : Int) (x267000_3 : List Int) (x273000_3 : List Int) (x279000_3 : List Int) (x288000_3 : List Int) (u267000 : Value) (u273000 : Value) (u279000 : Value) (u288000 : Value), v71 = .int .i64 x71_3 ∧ Aside0 (mainsheetlaw08_PoolDoes.l1 kq t277 l1 (l1.length : Int) x22_1 (t273.length : Int) x71_3 x267000_3 x273000_3 x279000_3 x288000_3 = some r) ∧ Aside0 (kq ≤ kj25) ∧ Aside0 (Kd.R (Kd.int .u32) 31 w' w.heap.size (fun k_ => some k_ ≠ (u273000 : Value).ownBlock ∧ some k_ ≠ (u279000 : Value).ownBlock ∧ some k_ ≠ (u288000 : Value).ownBlock) u267000 x267000_3) ∧ Aside0 (Kd.R (Kd.int .u32) 31 w' w.heap.size (fun k_ => some k_ ≠ (u267000 : Value).ownBlock ∧ some k_ ≠ (u279000 : Value).ownBlock ∧ some k_ ≠ (u288000 : Value).ownBlock) u273000 x273000_3) ∧ Aside0 (Kd.R (Kd.int .u32) 31 w' w.heap.size (fun k_ => some k_ ≠ (u267000 : Value).ownBlock ∧ some k_ ≠ (u273000 : Value).ownBlock ∧ some k_ ≠ (u288000 : Value).ownBlock) u279000 x279000_3) ∧ Aside0 (Kd.R (Kd.int .u32) 31 w' w.heap.size (fun k_ => some k_ ≠ (u267000 : Value).ownBlock ∧ some k_ ≠ (u273000 : Value).ownBlock ∧ some k_ ≠ (u279000 : Value).ownBlock) u288000 x288000_3) ∧ Aside0 (w'.heap[gb261]? = some (.cells #[(.slice A0_0 l0_0.length c0_0)] 26 (0, 0))) ∧ Aside0 (w'.heap[gb266]? = some (.cells #[u267000] 26 (0, 0))) ∧ Aside0 (w'.heap[gb268]? = some (.cells #[.int .i64 ((rd_T36 l1 x22_1).f0), .int .i64 ((rd_T36 l1 x22_1).f1), .int .i64 ((rd_T36 l1 x22_1).f2), .int .i64 ((rd_T36 l1 x22_1).f3), .int .u32 ((rd_T36 l1 x22_1).f4)] 36 (0, 0))) ∧ Aside0 (w'.heap[gb272]? = some (.cells #[u273000] 26 (0, 0))) ∧ Aside0 (w'.heap[gb278]? = some (.cells #[u279000] 26 (0, 0))) ∧ Aside0 (w'.heap[gb287]? = some (.cells #[u288000] 26 (0, 0))) ∧ Aside0 (Below w.heap.size w w'))
                      case atStart => exact ⟨(0), (x267000_1), (t269), (t273), (t290), (.slice Ao33 x267000_1.length co33), (.slice Ao36 t269.length co36), (.slice Ao45 t273.length co45), (.slice Ao106 t290.length co106), (by first | rfl | (simp; done) | (simp [*]; done)), H', ⟨Nat.le_refl _⟩, ⟨by (with_reducible repeat (first | apply Kd.R_alloc | apply Kd.R_drewN | apply Kd.R_drew)); exact Kd.R_mono (Kd.R_far (p := ⟨gb287, 0, none⟩) (Kd.R_types HO_267000.out BK287.out (by decide)) (fun _ hk => hk.2) (.slice Ao106 t290.length co106)) (fun _ hk => ⟨hk.1.1.1, ⟨hk.1.1.2.1, hk.1.2⟩⟩)⟩, ⟨by (with_reducible repeat (first | apply Kd.R_alloc | apply Kd.R_drewN | apply Kd.R_drew)); exact Kd.R_mono (Kd.R_far (p := ⟨gb287, 0, none⟩) (Kd.R_types HO_273000.out BK287.out (by decide)) (fun _ hk => hk.2) (.slice Ao106 t290.length co106)) (fun _ hk => ⟨hk.1.1.1, ⟨hk.1.1.2.1, hk.1.2⟩⟩)⟩, ⟨by (with_reducible repeat (first | apply Kd.R_alloc | apply Kd.R_drewN | apply Kd.R_drew)); exact Kd.R_mono (Kd.R_far (p := ⟨gb287, 0, none⟩) (Kd.R_types HO_279000.out BK287.out (by decide)) (fun _ hk => hk.2) (.slice Ao106 t290.length co106)) (fun _ hk => ⟨hk.1.1.1, ⟨hk.1.1.2.1, hk.1.2⟩⟩)⟩, ⟨by (with_reducible repeat (first | apply Kd.R_alloc | apply Kd.R_drewN | apply Kd.R_drew)); exact Kd.R_mono (Kd.R_far (p := ⟨gb287, 0, none⟩) (Kd.R_types HO292.out BK287.out (by decide)) (fun _ hk => hk.2) (.slice Ao106 t290.length co106)) (fun _ hk => ⟨hk.1.1.1.1.2, ⟨hk.1.1.1.2, hk.1.1.2⟩⟩)⟩, ⟨by (with_reducible repeat (first | refine blk_drewN ?_ _ | refine blk_drew ?_ | refine blk_alloc ?_ _)); refine blk_far ?_ NB261_287.out _; (with_reducible repeat (first | refine blk_drewN ?_ _ | refine blk_drew ?_ | refine blk_alloc ?_ _)); exact BK261.out⟩, ⟨by (with_reducible repeat (first | refine blk_drewN ?_ _ | refine blk_drew ?_ | refine blk_alloc ?_ _)); refine blk_far ?_ NB266_287.out _; (with_reducible repeat (first | refine blk_drewN ?_ _ | refine blk_drew ?_ | refine blk_alloc ?_ _)); exact BK266.out⟩, ⟨by (with_reducible repeat (first | refine blk_drewN ?_ _ | refine blk_drew ?_ | refine blk_alloc ?_ _)); refine blk_far ?_ NB268_287.out _; (with_reducible repeat (first | refine blk_drewN ?_ _ | refine blk_drew ?_ | refine blk_alloc ?_ _)); exact BK268.out⟩, ⟨by (with_reducible repeat (first | refine blk_drewN ?_ _ | refine blk_drew ?_ | refine blk_alloc ?_ _)); refine blk_far ?_ NB272_287.out _; (with_reducible repeat (first | refine blk_drewN ?_ _ | refine blk_drew ?_ | refine blk_alloc ?_ _)); exact BK272.out⟩, ⟨by (with_reducible repeat (first | refine blk_drewN ?_ _ | refine blk_drew ?_ | refine blk_alloc ?_ _)); refine blk_far ?_ NB278_287.out _; (with_reducible repeat (first | refine blk_drewN ?_ _ | refine blk_drew ?_ | refine blk_alloc ?_ _)); exact BK278.out⟩, ⟨by (with_reducible repeat (first | refine blk_drewN ?_ _ | refine blk_drew ?_ | refine blk_alloc ?_ _)); refine blk_put (cs := #[.slice Ao58 t282.length co58]) ?_ 0 _ rfl; (with_reducible repeat (first | refine blk_drewN ?_ _ | refine blk_drew ?_ | refine blk_alloc ?_ _)); exact BK287.out⟩, ⟨by repeat (first | (with_reducible first | exact HB.out | apply below_alloc | apply pw_below_drewN | apply below_drew1 | refine below_set ?_ GE261.out | refine below_set ?_ GE266.out | refine below_set ?_ GE268.out | refine below_set ?_ GE272.out | refine below_set ?_ GE278.out | refine below_set ?_ GE287.out) | exact HB.out)⟩⟩
                      case round =>
                        clear H'
                        try clear c1
                        try clear p2
                        try clear c6
                        try clear c7
                        try clear c8
                        try clear c9
                        try clear c10
                        try clear c11
                        try clear c13
                        try clear c15
                        try clear c60
                        try clear c60b0
                        try clear c60b1
                        try clear c61
                        try clear c61b0
                        try clear c61b1
                        try clear c63
                        try clear c65
                        try clear c66
                        try clear c67
                        try clear c68
                        try clear c69
                        try clear c71
                        try clear c72
                        try clear c73
                        try clear c74
                        try clear c77
                        try clear c78
                        try clear c79
                        try clear c81
                        try clear c82
                        try clear c85
                        try clear c86
                        try clear c87
                        try clear c88
                        try clear c89
                        try clear c91
                        try clear c92
                        try clear c93
                        try clear c94
                        try clear c97
                        try clear c99
                        try clear c100
                        try clear c101
                        try clear c102
                        try clear c103
                        try clear c108
                        try clear c109
                        try clear c110
                        try clear c111
                        try clear hcz104_0
                        try clear hcz107_0
                        try clear hcz112_0
                        try clear hcz70_0
                        try clear hcz75_0
                        try clear hcz80_0
                        try clear hcz83_0
                        try clear hcz90_0
                        try clear hcz95_0
                        try clear hfz104_0
                        try clear hfz107_0
                        try clear hfz112_0
                        try clear hfz70_0
                        try clear hfz75_0
                        try clear hfz80_0
                        try clear hfz83_0
                        try clear hfz90_0
                        try clear hfz95_0
                        try clear p2
                        obtain ⟨x71_3, x267000_3, x273000_3, x279000_3, x288000_3, u267000, u273000, u279000, u288000, rfl, HA, HK3, HO_267000, HO_273000, HO_279000, HO_288000, BK261, BK266, BK268, BK272, BK278, BK287, HB⟩ := hrel
                        cases gk with
                        | zero => exact absurd HA.out (by simp [mainsheetlaw08_PoolDoes.l1])
                        | succ k3 =>
                          have H := HA.out
                          clear HA
                          simp only [mainsheetlaw08_PoolDoes.l1] at H
                          by_cases c113 : x71_3 < (t273.length : Int)
                          · rw [if_pos c113] at H
                            have c113b0 : decide (x71_3 < (t273.length : Int)) = true := decide_eq_true c113
                            clear c113
                            by_cases c114 : 0 ≤ x71_3
                            · rw [if_pos c114] at H
                              have c114b0 : decide (0 ≤ x71_3) = true := decide_eq_true c114
                              clear c114
                              by_cases c115 : x71_3 < (x279000_3.length : Int)
                              · rw [if_pos c115] at H
                                have c115b0 : decide (x71_3 < (x279000_3.length : Int)) = true := decide_eq_true c115
                                clear c115
                                obtain ⟨y293, hy293⟩ : ∃ y_ : List Int, y_ = (x279000_3.set (x71_3 : Int).toNat 99) := ⟨_, rfl⟩
                                replace H : (mainsheetlaw08_PoolDoes.l1 k3 t277 l1 (l1.length : Int) x22_1 (t273.length : Int) (wrap64 (x71_3 + 1)) x267000_3 x273000_3 y293 x288000_3) = some r := by first | (rw [hy293]; with_reducible exact H) | (have H2_ := (Option.bind_some _ _).symm.trans H; rw [hy293]; with_reducible exact H2_) | (have H2_ := (Option.bind_some _ _).symm.trans H; with_reducible exact H2_) | with_reducible exact H | (rw [hy293]; exact H) | exact H
                                have Ny293 := Aside0.mk hy293
                                clear hy293
                                have H' := Aside0.mk H
                                clear H
                                have hnb117 := NB278_261.out
                                have hnc117 := NB261_278.out
                                have hnb118 := NB278_266.out
                                have hnc118 := NB266_278.out
                                have hnb119 := NB278_268.out
                                have hnc119 := NB268_278.out
                                have hnb120 := NB278_272.out
                                have hnc120 := NB272_278.out
                                have hnb121 := NB278_287.out
                                have hnc121 := NB287_278.out
                                have hcz122_0 : wr.cell? ⟨gb278, 0, none⟩ = some (u279000) := (blk_cell BK278.out 0).trans rfl
                                have hfz122_0 := blk_frozen BK278.out 0
                                have p116 : 0 ≤ (x71_3 : Int) := of_decide_eq_true (by first | (with_reducible assumption) | assumption)
                                have q116 : (x71_3 : Int) < ((x279000_3.length : Int) : Int) := of_decide_eq_true (by first | (with_reducible assumption) | assumption)
                                obtain ⟨go116, co116, eo116, gb116, gl116, cl116, HG116⟩ := Kd.R_form HO_279000.out (by omega)
                                (first | cases eo116 | (injection eo116 with ea_ en_ ec_; (first | subst ea_ | (injection ea_ with ea_; subst ea_)); subst ec_; clear en_))
                                have GB116 := Aside0.mk gb116
                                have GG116 := Aside0.mk HG116
                                clear gb116 gl116 HG116
                                obtain ⟨hx116_0, hf116_0⟩ := Kd.R_celln 0 HO_279000.out (x71_3 : Int) p116 q116
                                replace p116 := eq_true p116
                                replace q116 := eq_true q116
                                have HP123 := Kd.R_putg HO_279000.out (x71_3 : Int) 99
                                go_wp2_with (first | ((with_reducible refine gate_store (t := 31) (p := 77) rfl ?_); refine store_event (t := 31) (p := 77) (v := ?vo_w124) (w1 := (wr.setCell ⟨go116, (x71_3 : Int).toNat, none⟩ (.int .u32 99))) ?hg ?ho ?hn ?hr ?_; (case ho => rfl); (case hg => rfl); (case hn => rfl); (case hr => first | (go_simp; done) | (go_simp; rfl)); intro w124 hw; have hg : wr.grownBy w124 (some go116) := (by rw [hw]; exact HP123.2); have hp_ : Kd.R (Kd.int .u32) 31 w124 w.heap.size (fun k_ => some k_ ≠ (u267000 : Value).ownBlock ∧ some k_ ≠ (u273000 : Value).ownBlock ∧ some k_ ≠ (u288000 : Value).ownBlock) (.slice (some ⟨go116, 0, none⟩) x279000_3.length co116) y293 := (by rw [hw, Ny293.out]; exact HP123.1); clear HP123; have n0_ := Aside0.mk (Kd.R_after (v := (.slice (some ⟨go116, 0, none⟩) x279000_3.length co116)) (v1 := (.slice (some ⟨go116, 0, none⟩) x279000_3.length co116)) (ok := (fun k_ => some k_ ≠ (u273000 : Value).ownBlock ∧ some k_ ≠ (u288000 : Value).ownBlock)) (by (with_reducible repeat (first | apply Kd.R_alloc | apply Kd.R_drewN | apply Kd.R_drew)); exact Kd.R_mono HO_267000.out (fun _ hk => ⟨⟨hk.1, hk.2.2⟩, hk.2.1⟩)) hg (.inl rfl)); have n1_ := Aside0.mk (Kd.R_after (v := (.slice (some ⟨go116, 0, none⟩) x279000_3.length co116)) (v1 := (.slice (some ⟨go116, 0, none⟩) x279000_3.length co116)) (ok := (fun k_ => some k_ ≠ (u267000 : Value).ownBlock ∧ some k_ ≠ (u288000 : Value).ownBlock)) (by (with_reducible repeat (first | apply Kd.R_alloc | apply Kd.R_drewN | apply Kd.R_drew)); exact Kd.R_mono HO_273000.out (fun _ hk => ⟨⟨hk.1, hk.2.2⟩, hk.2.1⟩)) hg (.inl rfl)); have n2_ := Aside0.mk (hp_); have n3_ := Aside0.mk (Kd.R_after (v := (.slice (some ⟨go116, 0, none⟩) x279000_3.length co116)) (v1 := (.slice (some ⟨go116, 0, none⟩) x279000_3.length co116)) (ok := (fun k_ => some k_ ≠ (u267000 : Value).ownBlock ∧ some k_ ≠ (u273000 : Value).ownBlock)) (by (with_reducible repeat (first | apply Kd.R_alloc | apply Kd.R_drewN | apply Kd.R_drew)); exact Kd.R_mono HO_288000.out (fun _ hk => ⟨⟨hk.1, hk.2.1⟩, hk.2.2⟩)) hg (.inl rfl)); have n4_ := Aside0.mk (blk_grown (g := gb261) (o := .cells #[.slice A0_0 l0_0.length c0_0] 26 (0, 0)) (by (with_reducible repeat (first | refine blk_drewN ?_ _ | refine blk_drew ?_ | refine blk_alloc ?_ _)); exact BK261.out) hg (Kd.R_ne HO_279000.out BK261.out (by decide))); have n5_ := Aside0.mk (blk_grown (g := gb266) (o := .cells #[u267000] 26 (0, 0)) (by (with_reducible repeat (first | refine blk_drewN ?_ _ | refine blk_drew ?_ | refine blk_alloc ?_ _)); exact BK266.out) hg (Kd.R_ne HO_279000.out BK266.out (by decide))); have n6_ := Aside0.mk (blk_grown (g := gb268) (o := .cells #[.int .i64 ((rd_T36 l1 x22_1).f0), .int .i64 ((rd_T36 l1 x22_1).f1), .int .i64 ((rd_T36 l1 x22_1).f2), .int .i64 ((rd_T36 l1 x22_1).f3), .int .u32 ((rd_T36 l1 x22_1).f4)] 36 (0, 0)) (by (with_reducible repeat (first | refine blk_drewN ?_ _ | refine blk_drew ?_ | refine blk_alloc ?_ _)); exact BK268.out) hg (Kd.R_ne HO_279000.out BK268.out (by decide))); have n7_ := Aside0.mk (blk_grown (g := gb272) (o := .cells #[u273000] 26 (0, 0)) (by (with_reducible repeat (first | refine blk_drewN ?_ _ | refine blk_drew ?_ | refine blk_alloc ?_ _)); exact BK272.out) hg (Kd.R_ne HO_279000.out BK272.out (by decide))); have n8_ := Aside0.mk (blk_grown (g := gb278) (o := .cells #[.slice (some ⟨go116, 0, none⟩) x279000_3.length co116] 26 (0, 0)) (by (with_reducible repeat (first | refine blk_drewN ?_ _ | refine blk_drew ?_ | refine blk_alloc ?_ _)); exact BK278.out) hg (Kd.R_ne HO_279000.out BK278.out (by decide))); have n9_ := Aside0.mk (blk_grown (g := gb287) (o := .cells #[u288000] 26 (0, 0)) (by (with_reducible repeat (first | refine blk_drewN ?_ _ | refine blk_drew ?_ | refine blk_alloc ?_ _)); exact BK287.out) hg (Kd.R_ne HO_279000.out BK287.out (by decide))); have n10_ := Aside0.mk ((by rw [hw]; exact below_set (HB.out) GB116.out : Below w.heap.size w w124)); clear HO_267000; clear HO_273000; clear HO_279000; clear HO_288000; clear BK261; clear BK266; clear BK268; clear BK272; clear BK278; clear BK287; clear HB; have HO_267000 := n0_; have HO_273000 := n1_; have HO_279000 := n2_; have HO_288000 := n3_; have BK261 := n4_; have BK266 := n5_; have BK268 := n6_; have BK272 := n7_; have BK278 := n8_; have BK287 := n9_; have HB := n10_; clear n0_ n1_ n2_ n3_ n4_ n5_ n6_ n7_ n8_ n9_ n10_; clear hg hw hp_))
                                go_roundg k3
                                case measure => have := HK1.out; have := HJ25.out; have := HK3.out; omega
                                case rel => exact ⟨(wrap64 (x71_3 + 1)), (x267000_3), (x273000_3), (y293), (x288000_3), (u267000), (u273000), (.slice (some ⟨go116, 0, none⟩) x279000_3.length co116), (u288000), (by first | rfl | (simp; done) | (simp [*]; done)), H', ⟨by have := HK1.out; have := HJ25.out; have := HK3.out; omega⟩, ⟨by (with_reducible repeat (first | apply Kd.R_alloc | apply Kd.R_drewN | apply Kd.R_drew)); exact Kd.R_mono HO_267000.out (fun _ hk => ⟨hk.1.1, ⟨hk.2, hk.1.2⟩⟩)⟩, ⟨by (with_reducible repeat (first | apply Kd.R_alloc | apply Kd.R_drewN | apply Kd.R_drew)); exact Kd.R_mono HO_273000.out (fun _ hk => ⟨hk.1.1, ⟨hk.2, hk.1.2⟩⟩)⟩, ⟨by (with_reducible repeat (first | apply Kd.R_alloc | apply Kd.R_drewN | apply Kd.R_drew)); exact HO_279000.out⟩, ⟨by (with_reducible repeat (first | apply Kd.R_alloc | apply Kd.R_drewN | apply Kd.R_drew)); exact Kd.R_mono HO_288000.out (fun _ hk => ⟨hk.1.1, ⟨hk.1.2, hk.2⟩⟩)⟩, ⟨by (with_reducible repeat (first | refine blk_drewN ?_ _ | refine blk_drew ?_ | refine blk_alloc ?_ _)); exact BK261.out⟩, ⟨by (with_reducible repeat (first | refine blk_drewN ?_ _ | refine blk_drew ?_ | refine blk_alloc ?_ _)); exact BK266.out⟩, ⟨by (with_reducible repeat (first | refine blk_drewN ?_ _ | refine blk_drew ?_ | refine blk_alloc ?_ _)); exact BK268.out⟩, ⟨by (with_reducible repeat (first | refine blk_drewN ?_ _ | refine blk_drew ?_ | refine blk_alloc ?_ _)); exact BK272.out⟩, ⟨by (with_reducible repeat (first | refine blk_drewN ?_ _ | refine blk_drew ?_ | refine blk_alloc ?_ _)); exact BK278.out⟩, ⟨by (with_reducible repeat (first | refine blk_drewN ?_ _ | refine blk_drew ?_ | refine blk_alloc ?_ _)); exact BK287.out⟩, ⟨by repeat (first | (with_reducible first | exact HB.out | apply below_alloc | apply pw_below_drewN | apply below_drew1 | refine below_set ?_ GE261.out | refine below_set ?_ GE266.out | refine below_set ?_ GE268.out | refine below_set ?_ GE272.out | refine below_set ?_ GE278.out | refine below_set ?_ GE287.out) | exact HB.out)⟩⟩
                              · rw [if_neg c115] at H
                                exact absurd H (by simp)
                            · rw [if_neg c114] at H
                              exact absurd H (by simp)
                          · rw [if_neg c113] at H
                            have c113b0 : decide (x71_3 < (t273.length : Int)) = false := decide_eq_false c113
                            clear c113
                            replace H := Option.bind_eq_some_iff.mp H
                            obtain ⟨t294, A1250, H⟩ := H
                            replace H : (if t294 = true then (if t277 = 0 then (mainsheetlaw08_PoolDoes.l0 k3 l1 (l1.length : Int) (wrap64 (x22_1 + 1)) x288000_3) else (mainsheetlaw08_PoolDoes.l0 k3 l1 (l1.length : Int) (wrap64 (x22_1 + 1)) x267000_3)) else (some false)) = some r := H
                            have A125 := Aside0.mk A1250
                            clear A1250
                            by_cases c126 : t294 = true
                            · subst c126
                              have H1 : (if t277 = 0 then (mainsheetlaw08_PoolDoes.l0 k3 l1 (l1.length : Int) (wrap64 (x22_1 + 1)) x288000_3) else (mainsheetlaw08_PoolDoes.l0 k3 l1 (l1.length : Int) (wrap64 (x22_1 + 1)) x267000_3)) = some r := by rw [if_pos rfl] at H; exact H
                              clear H
                              have H := H1
                              clear H1
                              by_cases c127 : t277 = 0
                              · rw [if_pos c127] at H
                                have c127b0 : (t277 == 0) = true := beq_iff_eq.mpr c127
                                have c127b1 : (t277 != 0) = false := bne_eq_false_iff_eq.mpr c127
                                clear c127
                                have H' := Aside0.mk H
                                clear H
                                have hnb128 := NB266_261.out
                                have hnc128 := NB261_266.out
                                have hnb129 := NB266_268.out
                                have hnc129 := NB268_266.out
                                have hnb130 := NB266_272.out
                                have hnc130 := NB272_266.out
                                have hnb131 := NB266_278.out
                                have hnc131 := NB278_266.out
                                have hnb132 := NB266_287.out
                                have hnc132 := NB287_266.out
                                have hcz133_0 : wr.cell? ⟨gb266, 0, none⟩ = some (u267000) := (blk_cell BK266.out 0).trans rfl
                                have hfz133_0 := blk_frozen BK266.out 0
                                have hnb134 := NB272_261.out
                                have hnc134 := NB261_272.out
                                have hnb135 := NB272_268.out
                                have hnc135 := NB268_272.out
                                have hnb136 := NB272_278.out
                                have hnc136 := NB278_272.out
                                have hnb137 := NB272_287.out
                                have hnc137 := NB287_272.out
                                have hcz138_0 : wr.cell? ⟨gb272, 0, none⟩ = some (u273000) := (blk_cell BK272.out 0).trans rfl
                                have hfz138_0 := blk_frozen BK272.out 0
                                obtain ⟨Ao139, co139, eo139⟩ := Kd.R_slice HO_267000.out
                                subst eo139
                                obtain ⟨Ao140, co140, eo140⟩ := Kd.R_slice HO_273000.out
                                subst eo140
                                go_wp2_with (first | ((with_reducible refine gate_callee (f := 14) rfl ?_); refine goesL_ (some 81) rfl rfl Try.func14 (by kernel_rfl) rfl #[.agg #[.slice Ao139 x267000_3.length co139], .agg #[.slice Ao140 x273000_3.length co140]] rfl (by (try simp only [List.map_toArray, List.map_cons, List.map_nil]); first | done | rfl | (simp only [List.length_drop, List.length_take]; rfl)) ?_; (with_reducible refine (mainsheetref08_Same.calls k3 _ _ x267000_3 _ _ x273000_3 true _ ?side1 ?side2 ?side3 ?side4 A125.out).mono ?_); (case side1 => repeat (first | exact (Kd.R_reads' HO_267000.out).2.2 | (with_reducible refine Kd.C_alloc ?_ _) | (with_reducible refine Kd.C_drewN ?_ _) | (with_reducible refine Kd.C_drew ?_))); (case side2 => exact (Kd.R_reads' HO_267000.out).2.1); (case side3 => repeat (first | exact (Kd.R_reads' HO_273000.out).2.2 | (with_reducible refine Kd.C_alloc ?_ _) | (with_reducible refine Kd.C_drewN ?_ _) | (with_reducible refine Kd.C_drew ?_))); (case side4 => exact (Kd.R_reads' HO_273000.out).2.1); rintro e w141 ⟨rfl, hb⟩; refine ⟨_, rfl, ?_⟩; have n0_ := Aside0.mk (Kd.R_below (by (with_reducible repeat (first | apply Kd.R_alloc | apply Kd.R_drewN | apply Kd.R_drew)); exact HO_267000.out) hb); have n1_ := Aside0.mk (Kd.R_below (by (with_reducible repeat (first | apply Kd.R_alloc | apply Kd.R_drewN | apply Kd.R_drew)); exact HO_273000.out) hb); have n2_ := Aside0.mk (Kd.R_below (by (with_reducible repeat (first | apply Kd.R_alloc | apply Kd.R_drewN | apply Kd.R_drew)); exact HO_279000.out) hb); have n3_ := Aside0.mk (Kd.R_below (by (with_reducible repeat (first | apply Kd.R_alloc | apply Kd.R_drewN | apply Kd.R_drew)); exact HO_288000.out) hb); have n4_ := Aside0.mk (blk_below (g := gb261) (o := .cells #[.slice A0_0 l0_0.length c0_0] 26 (0, 0)) (by (with_reducible repeat (first | refine blk_drewN ?_ _ | refine blk_drew ?_ | refine blk_alloc ?_ _)); exact BK261.out) hb); have n5_ := Aside0.mk (blk_below (g := gb266) (o := .cells #[.slice Ao139 x267000_3.length co139] 26 (0, 0)) (by (with_reducible repeat (first | refine blk_drewN ?_ _ | refine blk_drew ?_ | refine blk_alloc ?_ _)); exact BK266.out) hb); have n6_ := Aside0.mk (blk_below (g := gb268) (o := .cells #[.int .i64 ((rd_T36 l1 x22_1).f0), .int .i64 ((rd_T36 l1 x22_1).f1), .int .i64 ((rd_T36 l1 x22_1).f2), .int .i64 ((rd_T36 l1 x22_1).f3), .int .u32 ((rd_T36 l1 x22_1).f4)] 36 (0, 0)) (by (with_reducible repeat (first | refine blk_drewN ?_ _ | refine blk_drew ?_ | refine blk_alloc ?_ _)); exact BK268.out) hb); have n7_ := Aside0.mk (blk_below (g := gb272) (o := .cells #[.slice Ao140 x273000_3.length co140] 26 (0, 0)) (by (with_reducible repeat (first | refine blk_drewN ?_ _ | refine blk_drew ?_ | refine blk_alloc ?_ _)); exact BK272.out) hb); have n8_ := Aside0.mk (blk_below (g := gb278) (o := .cells #[u279000] 26 (0, 0)) (by (with_reducible repeat (first | refine blk_drewN ?_ _ | refine blk_drew ?_ | refine blk_alloc ?_ _)); exact BK278.out) hb); have n9_ := Aside0.mk (blk_below (g := gb287) (o := .cells #[u288000] 26 (0, 0)) (by (with_reducible repeat (first | refine blk_drewN ?_ _ | refine blk_drew ?_ | refine blk_alloc ?_ _)); exact BK287.out) hb); have n10_ := Aside0.mk (below_step (by repeat (first | (with_reducible first | exact HB.out | apply below_alloc | apply pw_below_drewN | apply below_drew1 | refine below_set ?_ GE261.out | refine below_set ?_ GE266.out | refine below_set ?_ GE268.out | refine below_set ?_ GE272.out | refine below_set ?_ GE278.out | refine below_set ?_ GE287.out) | exact HB.out)) hb); clear HO_267000; clear HO_273000; clear HO_279000; clear HO_288000; clear BK261; clear BK266; clear BK268; clear BK272; clear BK278; clear BK287; clear HB; have HO_267000 := n0_; have HO_273000 := n1_; have HO_279000 := n2_; have HO_288000 := n3_; have BK261 := n4_; have BK266 := n5_; have BK268 := n6_; have BK272 := n7_; have BK278 := n8_; have BK287 := n9_; have HB := n10_; clear n0_ n1_ n2_ n3_ n4_ n5_ n6_ n7_ n8_ n9_ n10_; (try clear hb); (try clear hb2); (try clear hk); (try clear hi); have hnb142 := NB287_261.out; have hnc142 := NB261_287.out; have hnb143 := NB287_268.out; have hnc143 := NB268_287.out; have hnb144 := NB287_278.out; have hnc144 := NB278_287.out; have hcz145_0 : w141.cell? ⟨gb287, 0, none⟩ = some (u288000) := (blk_cell BK287.out 0).trans rfl; have hfz145_0 := blk_frozen BK287.out 0; obtain ⟨Ao146, co146, eo146⟩ := Kd.R_slice HO_288000.out; subst eo146; have hcz147_0 : w141.cell? ⟨gb266, 0, none⟩ = some (.slice Ao139 x267000_3.length co139) := (blk_cell BK266.out 0).trans rfl; have hfz147_0 := blk_frozen BK266.out 0))
                                go_roundg k3
                                case measure => have := HK1.out; have := HJ25.out; have := HK3.out; omega
                                case rel => exact ⟨(wrap64 (x22_1 + 1)), (x288000_3), (.slice Ao146 x288000_3.length co146), (by first | rfl | (simp; done) | (simp [*]; done)), H', ⟨by have := HK1.out; have := HJ25.out; have := HK3.out; omega⟩, ⟨by (with_reducible repeat (first | apply Kd.R_alloc | apply Kd.R_drewN | apply Kd.R_drew)); exact Kd.R_mono (Kd.R_far (p := ⟨gb266, 0, none⟩) (Kd.R_types HO_288000.out BK266.out (by decide)) (fun _ hk => hk.2) (.slice Ao146 x288000_3.length co146)) (fun _ hk => trivial)⟩, ⟨by (with_reducible repeat (first | refine blk_drewN ?_ _ | refine blk_drew ?_ | refine blk_alloc ?_ _)); refine blk_far ?_ NB261_266.out _; (with_reducible repeat (first | refine blk_drewN ?_ _ | refine blk_drew ?_ | refine blk_alloc ?_ _)); exact BK261.out⟩, ⟨by (with_reducible repeat (first | refine blk_drewN ?_ _ | refine blk_drew ?_ | refine blk_alloc ?_ _)); refine blk_put (cs := #[.slice Ao139 x267000_3.length co139]) ?_ 0 _ rfl; (with_reducible repeat (first | refine blk_drewN ?_ _ | refine blk_drew ?_ | refine blk_alloc ?_ _)); exact BK266.out⟩, ⟨by repeat (first | (with_reducible first | exact HB.out | apply below_alloc | apply pw_below_drewN | apply below_drew1 | refine below_set ?_ GE261.out | refine below_set ?_ GE266.out | refine below_set ?_ GE268.out | refine below_set ?_ GE272.out | refine below_set ?_ GE278.out | refine below_set ?_ GE287.out) | exact HB.out)⟩⟩
                              · rw [if_neg c127] at H
                                have c127b0 : (t277 == 0) = false := beq_eq_false_iff_ne.mpr c127
                                have c127b1 : (t277 != 0) = true := bne_iff_ne.mpr c127
                                have H' := Aside0.mk H
                                clear H
                                have hnb148 := NB266_261.out
                                have hnc148 := NB261_266.out
                                have hnb149 := NB266_268.out
                                have hnc149 := NB268_266.out
                                have hnb150 := NB266_272.out
                                have hnc150 := NB272_266.out
                                have hnb151 := NB266_278.out
                                have hnc151 := NB278_266.out
                                have hnb152 := NB266_287.out
                                have hnc152 := NB287_266.out
                                have hcz153_0 : wr.cell? ⟨gb266, 0, none⟩ = some (u267000) := (blk_cell BK266.out 0).trans rfl
                                have hfz153_0 := blk_frozen BK266.out 0
                                have hnb154 := NB272_261.out
                                have hnc154 := NB261_272.out
                                have hnb155 := NB272_268.out
                                have hnc155 := NB268_272.out
                                have hnb156 := NB272_278.out
                                have hnc156 := NB278_272.out
                                have hnb157 := NB272_287.out
                                have hnc157 := NB287_272.out
                                have hcz158_0 : wr.cell? ⟨gb272, 0, none⟩ = some (u273000) := (blk_cell BK272.out 0).trans rfl
                                have hfz158_0 := blk_frozen BK272.out 0
                                obtain ⟨Ao159, co159, eo159⟩ := Kd.R_slice HO_267000.out
                                subst eo159
                                obtain ⟨Ao160, co160, eo160⟩ := Kd.R_slice HO_273000.out
                                subst eo160
                                go_wp2_with (first | ((with_reducible refine gate_callee (f := 14) rfl ?_); refine goesL_ (some 81) rfl rfl Try.func14 (by kernel_rfl) rfl #[.agg #[.slice Ao159 x267000_3.length co159], .agg #[.slice Ao160 x273000_3.length co160]] rfl (by (try simp only [List.map_toArray, List.map_cons, List.map_nil]); first | done | rfl | (simp only [List.length_drop, List.length_take]; rfl)) ?_; (with_reducible refine (mainsheetref08_Same.calls k3 _ _ x267000_3 _ _ x273000_3 true _ ?side1 ?side2 ?side3 ?side4 A125.out).mono ?_); (case side1 => repeat (first | exact (Kd.R_reads' HO_267000.out).2.2 | (with_reducible refine Kd.C_alloc ?_ _) | (with_reducible refine Kd.C_drewN ?_ _) | (with_reducible refine Kd.C_drew ?_))); (case side2 => exact (Kd.R_reads' HO_267000.out).2.1); (case side3 => repeat (first | exact (Kd.R_reads' HO_273000.out).2.2 | (with_reducible refine Kd.C_alloc ?_ _) | (with_reducible refine Kd.C_drewN ?_ _) | (with_reducible refine Kd.C_drew ?_))); (case side4 => exact (Kd.R_reads' HO_273000.out).2.1); rintro e w161 ⟨rfl, hb⟩; refine ⟨_, rfl, ?_⟩; have n0_ := Aside0.mk (Kd.R_below (by (with_reducible repeat (first | apply Kd.R_alloc | apply Kd.R_drewN | apply Kd.R_drew)); exact HO_267000.out) hb); have n1_ := Aside0.mk (Kd.R_below (by (with_reducible repeat (first | apply Kd.R_alloc | apply Kd.R_drewN | apply Kd.R_drew)); exact HO_273000.out) hb); have n2_ := Aside0.mk (Kd.R_below (by (with_reducible repeat (first | apply Kd.R_alloc | apply Kd.R_drewN | apply Kd.R_drew)); exact HO_279000.out) hb); have n3_ := Aside0.mk (Kd.R_below (by (with_reducible repeat (first | apply Kd.R_alloc | apply Kd.R_drewN | apply Kd.R_drew)); exact HO_288000.out) hb); have n4_ := Aside0.mk (blk_below (g := gb261) (o := .cells #[.slice A0_0 l0_0.length c0_0] 26 (0, 0)) (by (with_reducible repeat (first | refine blk_drewN ?_ _ | refine blk_drew ?_ | refine blk_alloc ?_ _)); exact BK261.out) hb); have n5_ := Aside0.mk (blk_below (g := gb266) (o := .cells #[.slice Ao159 x267000_3.length co159] 26 (0, 0)) (by (with_reducible repeat (first | refine blk_drewN ?_ _ | refine blk_drew ?_ | refine blk_alloc ?_ _)); exact BK266.out) hb); have n6_ := Aside0.mk (blk_below (g := gb268) (o := .cells #[.int .i64 ((rd_T36 l1 x22_1).f0), .int .i64 ((rd_T36 l1 x22_1).f1), .int .i64 ((rd_T36 l1 x22_1).f2), .int .i64 ((rd_T36 l1 x22_1).f3), .int .u32 ((rd_T36 l1 x22_1).f4)] 36 (0, 0)) (by (with_reducible repeat (first | refine blk_drewN ?_ _ | refine blk_drew ?_ | refine blk_alloc ?_ _)); exact BK268.out) hb); have n7_ := Aside0.mk (blk_below (g := gb272) (o := .cells #[.slice Ao160 x273000_3.length co160] 26 (0, 0)) (by (with_reducible repeat (first | refine blk_drewN ?_ _ | refine blk_drew ?_ | refine blk_alloc ?_ _)); exact BK272.out) hb); have n8_ := Aside0.mk (blk_below (g := gb278) (o := .cells #[u279000] 26 (0, 0)) (by (with_reducible repeat (first | refine blk_drewN ?_ _ | refine blk_drew ?_ | refine blk_alloc ?_ _)); exact BK278.out) hb); have n9_ := Aside0.mk (blk_below (g := gb287) (o := .cells #[u288000] 26 (0, 0)) (by (with_reducible repeat (first | refine blk_drewN ?_ _ | refine blk_drew ?_ | refine blk_alloc ?_ _)); exact BK287.out) hb); have n10_ := Aside0.mk (below_step (by repeat (first | (with_reducible first | exact HB.out | apply below_alloc | apply pw_below_drewN | apply below_drew1 | refine below_set ?_ GE261.out | refine below_set ?_ GE266.out | refine below_set ?_ GE268.out | refine below_set ?_ GE272.out | refine below_set ?_ GE278.out | refine below_set ?_ GE287.out) | exact HB.out)) hb); clear HO_267000; clear HO_273000; clear HO_279000; clear HO_288000; clear BK261; clear BK266; clear BK268; clear BK272; clear BK278; clear BK287; clear HB; have HO_267000 := n0_; have HO_273000 := n1_; have HO_279000 := n2_; have HO_288000 := n3_; have BK261 := n4_; have BK266 := n5_; have BK268 := n6_; have BK272 := n7_; have BK278 := n8_; have BK287 := n9_; have HB := n10_; clear n0_ n1_ n2_ n3_ n4_ n5_ n6_ n7_ n8_ n9_ n10_; (try clear hb); (try clear hb2); (try clear hk); (try clear hi)))
                                go_roundg k3
                                case measure => have := HK1.out; have := HJ25.out; have := HK3.out; omega
                                case rel => exact ⟨(wrap64 (x22_1 + 1)), (x267000_3), (.slice Ao159 x267000_3.length co159), (by first | rfl | (simp; done) | (simp [*]; done)), H', ⟨by have := HK1.out; have := HJ25.out; have := HK3.out; omega⟩, ⟨by (with_reducible repeat (first | apply Kd.R_alloc | apply Kd.R_drewN | apply Kd.R_drew)); exact Kd.R_mono HO_267000.out (fun _ hk => trivial)⟩, ⟨by (with_reducible repeat (first | refine blk_drewN ?_ _ | refine blk_drew ?_ | refine blk_alloc ?_ _)); exact BK261.out⟩, ⟨by (with_reducible repeat (first | refine blk_drewN ?_ _ | refine blk_drew ?_ | refine blk_alloc ?_ _)); exact BK266.out⟩, ⟨by repeat (first | (with_reducible first | exact HB.out | apply below_alloc | apply pw_below_drewN | apply below_drew1 | refine below_set ?_ GE261.out | refine below_set ?_ GE266.out | refine below_set ?_ GE268.out | refine below_set ?_ GE272.out | refine below_set ?_ GE278.out | refine below_set ?_ GE287.out) | exact HB.out)⟩⟩
                            · replace c126 := Bool.eq_false_iff.mpr c126
                              subst c126
                              have H1 : (some false) = some r := by rw [if_neg (show ¬ (false = true) by decide)] at H; exact H
                              clear H
                              have H := H1
                              clear H1
                              obtain rfl := Option.some.inj H
                              have hnb162 := NB266_261.out
                              have hnc162 := NB261_266.out
                              have hnb163 := NB266_268.out
                              have hnc163 := NB268_266.out
                              have hnb164 := NB266_272.out
                              have hnc164 := NB272_266.out
                              have hnb165 := NB266_278.out
                              have hnc165 := NB278_266.out
                              have hnb166 := NB266_287.out
                              have hnc166 := NB287_266.out
                              have hcz167_0 : wr.cell? ⟨gb266, 0, none⟩ = some (u267000) := (blk_cell BK266.out 0).trans rfl
                              have hfz167_0 := blk_frozen BK266.out 0
                              have hnb168 := NB272_261.out
                              have hnc168 := NB261_272.out
                              have hnb169 := NB272_268.out
                              have hnc169 := NB268_272.out
                              have hnb170 := NB272_278.out
                              have hnc170 := NB278_272.out
                              have hnb171 := NB272_287.out
                              have hnc171 := NB287_272.out
                              have hcz172_0 : wr.cell? ⟨gb272, 0, none⟩ = some (u273000) := (blk_cell BK272.out 0).trans rfl
                              have hfz172_0 := blk_frozen BK272.out 0
                              obtain ⟨Ao173, co173, eo173⟩ := Kd.R_slice HO_267000.out
                              subst eo173
                              obtain ⟨Ao174, co174, eo174⟩ := Kd.R_slice HO_273000.out
                              subst eo174
                              go_wp2_with (first | ((with_reducible refine gate_callee (f := 14) rfl ?_); refine goesL_ (some 81) rfl rfl Try.func14 (by kernel_rfl) rfl #[.agg #[.slice Ao173 x267000_3.length co173], .agg #[.slice Ao174 x273000_3.length co174]] rfl (by (try simp only [List.map_toArray, List.map_cons, List.map_nil]); first | done | rfl | (simp only [List.length_drop, List.length_take]; rfl)) ?_; (with_reducible refine (mainsheetref08_Same.calls k3 _ _ x267000_3 _ _ x273000_3 false _ ?side1 ?side2 ?side3 ?side4 A125.out).mono ?_); (case side1 => repeat (first | exact (Kd.R_reads' HO_267000.out).2.2 | (with_reducible refine Kd.C_alloc ?_ _) | (with_reducible refine Kd.C_drewN ?_ _) | (with_reducible refine Kd.C_drew ?_))); (case side2 => exact (Kd.R_reads' HO_267000.out).2.1); (case side3 => repeat (first | exact (Kd.R_reads' HO_273000.out).2.2 | (with_reducible refine Kd.C_alloc ?_ _) | (with_reducible refine Kd.C_drewN ?_ _) | (with_reducible refine Kd.C_drew ?_))); (case side4 => exact (Kd.R_reads' HO_273000.out).2.1); rintro e w175 ⟨rfl, hb⟩; refine ⟨_, rfl, ?_⟩; have n0_ := Aside0.mk (Kd.R_below (by (with_reducible repeat (first | apply Kd.R_alloc | apply Kd.R_drewN | apply Kd.R_drew)); exact HO_267000.out) hb); have n1_ := Aside0.mk (Kd.R_below (by (with_reducible repeat (first | apply Kd.R_alloc | apply Kd.R_drewN | apply Kd.R_drew)); exact HO_273000.out) hb); have n2_ := Aside0.mk (Kd.R_below (by (with_reducible repeat (first | apply Kd.R_alloc | apply Kd.R_drewN | apply Kd.R_drew)); exact HO_279000.out) hb); have n3_ := Aside0.mk (Kd.R_below (by (with_reducible repeat (first | apply Kd.R_alloc | apply Kd.R_drewN | apply Kd.R_drew)); exact HO_288000.out) hb); have n4_ := Aside0.mk (blk_below (g := gb261) (o := .cells #[.slice A0_0 l0_0.length c0_0] 26 (0, 0)) (by (with_reducible repeat (first | refine blk_drewN ?_ _ | refine blk_drew ?_ | refine blk_alloc ?_ _)); exact BK261.out) hb); have n5_ := Aside0.mk (blk_below (g := gb266) (o := .cells #[.slice Ao173 x267000_3.length co173] 26 (0, 0)) (by (with_reducible repeat (first | refine blk_drewN ?_ _ | refine blk_drew ?_ | refine blk_alloc ?_ _)); exact BK266.out) hb); have n6_ := Aside0.mk (blk_below (g := gb268) (o := .cells #[.int .i64 ((rd_T36 l1 x22_1).f0), .int .i64 ((rd_T36 l1 x22_1).f1), .int .i64 ((rd_T36 l1 x22_1).f2), .int .i64 ((rd_T36 l1 x22_1).f3), .int .u32 ((rd_T36 l1 x22_1).f4)] 36 (0, 0)) (by (with_reducible repeat (first | refine blk_drewN ?_ _ | refine blk_drew ?_ | refine blk_alloc ?_ _)); exact BK268.out) hb); have n7_ := Aside0.mk (blk_below (g := gb272) (o := .cells #[.slice Ao174 x273000_3.length co174] 26 (0, 0)) (by (with_reducible repeat (first | refine blk_drewN ?_ _ | refine blk_drew ?_ | refine blk_alloc ?_ _)); exact BK272.out) hb); have n8_ := Aside0.mk (blk_below (g := gb278) (o := .cells #[u279000] 26 (0, 0)) (by (with_reducible repeat (first | refine blk_drewN ?_ _ | refine blk_drew ?_ | refine blk_alloc ?_ _)); exact BK278.out) hb); have n9_ := Aside0.mk (blk_below (g := gb287) (o := .cells #[u288000] 26 (0, 0)) (by (with_reducible repeat (first | refine blk_drewN ?_ _ | refine blk_drew ?_ | refine blk_alloc ?_ _)); exact BK287.out) hb); have n10_ := Aside0.mk (below_step (by repeat (first | (with_reducible first | exact HB.out | apply below_alloc | apply pw_below_drewN | apply below_drew1 | refine below_set ?_ GE261.out | refine below_set ?_ GE266.out | refine below_set ?_ GE268.out | refine below_set ?_ GE272.out | refine below_set ?_ GE278.out | refine below_set ?_ GE287.out) | exact HB.out)) hb); clear HO_267000; clear HO_273000; clear HO_279000; clear HO_288000; clear BK261; clear BK266; clear BK268; clear BK272; clear BK278; clear BK287; clear HB; have HO_267000 := n0_; have HO_273000 := n1_; have HO_279000 := n2_; have HO_288000 := n3_; have BK261 := n4_; have BK266 := n5_; have BK268 := n6_; have BK272 := n7_; have BK278 := n8_; have BK287 := n9_; have HB := n10_; clear n0_ n1_ n2_ n3_ n4_ n5_ n6_ n7_ n8_ n9_ n10_; (try clear hb); (try clear hb2); (try clear hk); (try clear hi)))
                              go_ret
                              exact ⟨by first | rfl | (simp [errW_none, errW_some] <;> rfl) | (simp [*, errW_none, errW_some] <;> rfl), by repeat (first | (with_reducible first | exact HB.out | apply below_alloc | apply pw_below_drewN | apply below_drew1 | refine below_set ?_ GE261.out | refine below_set ?_ GE266.out | refine below_set ?_ GE268.out | refine below_set ?_ GE272.out | refine below_set ?_ GE278.out | refine below_set ?_ GE287.out) | exact HB.out)⟩
            · rw [if_neg c16] at H
              exact absurd H (by simp)
          · rw [if_neg c15] at H
            exact absurd H (by simp)
        · rw [if_neg c14] at H
          have c14b0 : decide (x22_1 < (l1.length : Int)) = false := decide_eq_false c14
          clear c14
          obtain rfl := Option.some.inj H
          go_wp2
          go_ret
          exact ⟨by first | rfl | (simp [errW_none, errW_some] <;> rfl) | (simp [*, errW_none, errW_some] <;> rfl), by repeat (first | (with_reducible first | exact HB.out | apply below_alloc | apply pw_below_drewN | apply below_drew1 | refine below_set ?_ GE261.out | refine below_set ?_ GE266.out) | exact HB.out)⟩
  · replace c4 := Bool.eq_false_iff.mpr c4
    subst c4
    have H1 : (some false) = some r := by rw [if_neg (show ¬ (false = true) by decide)] at H; exact H
    clear H
    have H := H1
    clear H1
    obtain rfl := Option.some.inj H
    go_enter Try.func4, Try.ntmps4
    go_wp2_with (first | ((with_reducible refine gate_dst (N := 2) rfl ?_); refine box_event ?hg (N := 2) ?hd (cs := #[.slice A0_0 l0_0.length c0_0]) (t := 26) ?hr ?_; (case hd => rfl); (case hg => rfl); (case hr => first | (go_simp; done) | (go_simp; rfl)); intro gb261 hg w176 hbox hb; have n0_ := Aside0.mk (below_step (by repeat (first | (with_reducible first | exact HB.out | apply below_alloc | apply pw_below_drewN | apply below_drew1) | exact HB.out)) hb); have n1_ := Aside0.mk (hbox); have n2_ := Aside0.mk ((by rw [hg]; exact (below_size (by repeat (first | (with_reducible first | exact HB.out | apply below_alloc | apply pw_below_drewN | apply below_drew1) | exact HB.out))) : w.heap.size ≤ gb261)); have n3_ := Aside0.mk ((by rw [hg]; exact (below_size (by repeat (first | (with_reducible first | exact HB.out | apply below_alloc | apply pw_below_drewN | apply below_drew1) | exact HB.out))) : w.heap.size ≤ gb261)); clear HB; have HB := n0_; have BK261 := n1_; have GW261 := n2_; have GE261 := n3_; clear n0_ n1_ n2_ n3_; clear hb hbox hg) | ((with_reducible refine gate_callee (f := 9) rfl ?_); refine goesL_ (some 16) rfl rfl Try.func9 (by kernel_rfl) rfl #[] rfl (by (try simp only [List.map_toArray, List.map_cons, List.map_nil]); first | done | rfl | (simp only [List.length_drop, List.length_take]; rfl)) ?_; (with_reducible refine (mainsheetlaw08_wakes.calls k  false _ A3.out).mono ?_); rintro e w177 ⟨rfl, hb⟩; refine ⟨_, rfl, ?_⟩; have n0_ := Aside0.mk (blk_below (g := gb261) (o := .cells #[.slice A0_0 l0_0.length c0_0] 26 (0, 0)) (by (with_reducible repeat (first | refine blk_drewN ?_ _ | refine blk_drew ?_ | refine blk_alloc ?_ _)); exact BK261.out) hb); have n1_ := Aside0.mk (below_step (by repeat (first | (with_reducible first | exact HB.out | apply below_alloc | apply pw_below_drewN | apply below_drew1 | refine below_set ?_ GE261.out) | exact HB.out)) hb); clear BK261; clear HB; have BK261 := n0_; have HB := n1_; clear n0_ n1_; (try clear hb); (try clear hb2); (try clear hk); (try clear hi)))
    go_ret
    exact ⟨by first | rfl | (simp [errW_none, errW_some] <;> rfl) | (simp [*, errW_none, errW_some] <;> rfl), by repeat (first | (with_reducible first | exact HB.out | apply below_alloc | apply pw_below_drewN | apply below_drew1 | refine below_set ?_ GE261.out) | exact HB.out)⟩

end Go.Proofs.Ytkhbffjfclepfaa.Q
