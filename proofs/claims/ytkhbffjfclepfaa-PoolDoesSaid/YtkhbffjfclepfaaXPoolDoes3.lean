/- Part 3 of 13 of what the row of PoolDoes stands on: contracts over the given program's functions, the plain law, the row; no condition beyond those that each theorem states. -/
import Derived.Test.YtkhbffjfclepfaaXPoolDoes2
import Derived.Deep.RegionWith
import Derived.IntWalk
import Derived.Deep.QuietTactic
import Derived.BigQuiet
import Derived.BigRegion
/- Function 30, mainsheet_pool_Join: contracts over the given program's functions, one a function; no condition beyond those that each theorem states. Written by this session's program over the kit's printer, and by hand. -/
namespace Go.Proofs.Ytkhbffjfclepfaa.Q
open Go.RowKit Go.Proofs.YtkhbffjfclepfaaW.PrintWords Go.Proofs.YtkhbffjfclepfaaW.PrintLast Go.Proofs.YtkhbffjfclepfaaW.PrintMore
attribute [local go_sem] max2_int min2_int max_two min_two max_three min_three max_four min_four
set_option linter.unusedVariables false
set_option linter.unusedSimpArgs false

/-! ### pool_Join: function 30, by hand -/
set_option maxHeartbeats 2000000 in
theorem pool_Join1.same (gq ga gb : Nat) (a b : Int) (w : World)
    (ha : w.heap[ga]? = some (.cells #[.int .i64 a] 3 (0, 0))) (hb : w.heap[gb]? = some (.cells #[.int .i64 b] 3 (0, 0))) (he : a = b) :
    Calls Try.prog 48 #[.pointer (some ⟨gq, 0, none⟩), .pointer (some ⟨ga, 0, none⟩), .pointer (some ⟨gb, 0, none⟩)] w fun e W' => e = .returned (.int .i64 2) ∧ ∃ n, W' = w.drewN n := by
  have ca : w.cell? ⟨ga, 0, none⟩ = some (.int .i64 a) := (blk_cell ha 0).trans rfl
  have cb : w.cell? ⟨gb, 0, none⟩ = some (.int .i64 b) := (blk_cell hb 0).trans rfl
  clear ha hb
  have d1 : (a == b) = true := beq_iff_eq.mpr he
  clear he
  go_enter Try.func48, Try.ntmps48
  go_wp2
  go_ret
  exact ⟨rfl, 0, rfl⟩
set_option maxHeartbeats 4000000 in
theorem pool_Join1.ok (gq ga gb : Nat) (l : List Int) (m : Nat) (a b : Nat) (v : Value) (base B0 : Nat) (w : World)
    (hq : w.heap[gq]? = some (.cells #[v] 26 (0, 0))) (hR : Kd.R (Kd.int .u32) 31 w B0 (fun _ => True) v l) (hm : l.length = m + 1)
    (ha : w.heap[ga]? = some (.cells #[.int .i64 a] 3 (0, 0))) (hb : w.heap[gb]? = some (.cells #[.int .i64 b] 3 (0, 0)))
    (h1 : a < l.length) (h2 : b < l.length) (hl : l.length < 35184372088832) (hB0 : ∀ g, g = ga ∨ g = gb → g < B0) (hB0w : B0 ≤ w.heap.size) (hbB : base ≤ B0) (hBq : B0 ≤ gq) (hne : a ≠ b) :
    Calls Try.prog 48 #[.pointer (some ⟨gq, 0, none⟩), .pointer (some ⟨ga, 0, none⟩), .pointer (some ⟨gb, 0, none⟩)] w fun e W' => e = .returned (.int .i64 0) ∧ Below base w W' ∧ (∀ k, k < w.heap.size → k ≠ gq → some k ≠ v.ownBlock → W'.heap[k]? = w.heap[k]?) ∧ ∃ v', W'.heap[gq]? = some (.cells #[v'] 26 (0, 0)) ∧ Kd.R (Kd.int .u32) 31 W' B0 (fun _ => True) v' ((l.set b (bits .or .u32 (rd l b) (rd l a))).eraseIdx a) := by
  obtain ⟨go, co, rfl, hgo, hgl, cl, HG⟩ := Kd.R_form hR (by omega)
  have HX0 := Aside0.mk hB0w
  have HX2 := Aside0.mk hbB
  have HX3 := Aside0.mk hBq
  clear hB0w hbB hBq
  rw [hm] at hR hq h1 h2
  have HLEN := Aside0.mk hm
  have hm2 : m < 35184372088832 := by omega
  have BKq := Aside0.mk hq
  have BKa := Aside0.mk ha
  have BKb := Aside0.mk hb
  have HO := Aside0.mk hR
  have cq : w.cell? ⟨gq, 0, none⟩ = some (.slice (some ⟨go, 0, none⟩) (m + 1) co) := (blk_cell hq 0).trans rfl
  have ca : w.cell? ⟨ga, 0, none⟩ = some (.int .i64 a) := (blk_cell ha 0).trans rfl
  have cb : w.cell? ⟨gb, 0, none⟩ = some (.int .i64 b) := (blk_cell hb 0).trans rfl
  obtain ⟨ce, fe⟩ := Kd.R_celln 0 hR a (by omega) (by omega)
  obtain ⟨ce2, fe2⟩ := Kd.R_celln 0 hR b (by omega) (by omega)
  have n3 : ¬ ga = go := by have := hB0 ga (by simp); omega
  have n4 : ¬ gb = go := by have := hB0 gb (by simp); omega
  have n6 : ¬ gq = go := by intro e; subst e; rw [hq] at HG; cases HG
  clear hq ha hb hR hB0 HG hl hm
  have d1 : ((a : Int) == (b : Int)) = false := beq_eq_false_iff_ne.mpr (by omega)
  clear hne
  have d4 : decide (0 ≤ (a : Int)) = true := decide_eq_true (by omega)
  have d6 : (0 ≤ (a : Int)) = True := eq_true (by omega)
  have d7 : ((a : Int) < (m : Int) + 1) = True := eq_true (by omega)
  have d8 : (0 ≤ (b : Int)) = True := eq_true (by omega)
  have d9 : ((b : Int) < (m : Int) + 1) = True := eq_true (by omega)
  have e1 : rdOf 0 l (a : Int) = rd l a := rfl
  have e2 : rdOf 0 l (b : Int) = rd l b := rfl
  rw [e1] at ce
  rw [e2] at ce2
  clear e1 e2
  simp only [Int.toNat_natCast] at ce ce2 fe fe2
  go_enter Try.func48, Try.ntmps48
  go_wp2
  go_region
  have HO2 : Aside0 (Kd.R (Kd.int .u32) 31 (w.setCell ⟨go, b, none⟩ (.int .u32 (bits .or .u32 (rd l b) (rd l a)))).drew B0 (fun _ => True) (.slice (some ⟨go, 0, none⟩) (m + 1) co) (l.set b (bits .or .u32 (rd l b) (rd l a)))) := ⟨Kd.R_drew (Kd.R_putn HO.out b _)⟩
  have BKq2 : Aside0 ((w.setCell ⟨go, b, none⟩ (.int .u32 (bits .or .u32 (rd l b) (rd l a)))).drew.heap[gq]? = some (.cells #[.slice (some ⟨go, 0, none⟩) (m + 1) co] 26 (0, 0))) := ⟨blk_drew (blk_far BKq.out (p := ⟨go, b, none⟩) n6 _)⟩
  have BKa2 : Aside0 ((w.setCell ⟨go, b, none⟩ (.int .u32 (bits .or .u32 (rd l b) (rd l a)))).drew.heap[ga]? = some (.cells #[.int .i64 a] 3 (0, 0))) := ⟨blk_drew (blk_far BKa.out (p := ⟨go, b, none⟩) n3 _)⟩
  have HX : Aside0 (B0 ≤ (w.setCell ⟨go, b, none⟩ (.int .u32 (bits .or .u32 (rd l b) (rd l a)))).drew.heap.size) := ⟨by have := HX0.out; simpa [World.setCell] using this⟩
  have FB : Aside0 (Below base w (w.setCell ⟨go, b, none⟩ (.int .u32 (bits .or .u32 (rd l b) (rd l a)))).drew) := ⟨((Below.refl base w).setCell (p := ⟨go, b, none⟩) (Nat.le_trans HX2.out hgo) _).drew⟩
  have FK : Aside0 (∀ k, k ≠ go → (w.setCell ⟨go, b, none⟩ (.int .u32 (bits .or .u32 (rd l b) (rd l a)))).drew.heap[k]? = w.heap[k]?) := ⟨fun k k2 => Below.heap_setCell _ ⟨go, b, none⟩ _ k k2⟩
  have FS : Aside0 ((w.setCell ⟨go, b, none⟩ (.int .u32 (bits .or .u32 (rd l b) (rd l a)))).drew.heap.size = w.heap.size) := ⟨by simp [World.setCell]⟩
  generalize (w.setCell ⟨go, b, none⟩ (.int .u32 (bits .or .u32 (rd l b) (rd l a)))).drew = w2 at HO2 BKq2 BKa2 HX FB FK FS ⊢
  clear cq ca cb ce ce2 fe fe2
  have cq : w2.cell? ⟨gq, 0, none⟩ = some (.slice (some ⟨go, 0, none⟩) (m + 1) co) := (blk_cell BKq2.out 0).trans rfl
  have ca : w2.cell? ⟨ga, 0, none⟩ = some (.int .i64 a) := (blk_cell BKa2.out 0).trans rfl
  have H1 := Aside0.mk h1
  go_wp2
  have hwr : IntKind.i64.wrap ((a : Int) + 1) = (a : Int) + 1 := IntWalk.i64_in _ (by omega)
  have HO2d := Aside0.mk (Kd.R_drew HO2.out)
  have BKq2d := Aside0.mk (blk_drew BKq2.out)
  go_region_with (go_at_call 49; refine (slices_Delete_cpus.calls go co _ m a B0 (fun _ => True) _ HO2d.out H1.out HX.out).mono ?_; rintro e w3 ⟨rfl, ho3, hg3⟩; have BKq3 := Aside0.mk (blk_grown BKq2d.out hg3 (fun e_ => n6 (Option.some.inj e_))); have cq3 : w3.cell? ⟨gq, 0, none⟩ = some (.slice (some ⟨go, 0, none⟩) (m + 1) co) := (blk_cell BKq3.out 0).trans rfl; have fq3 := blk_frozen BKq3.out 0; have HO3 := Aside0.mk ho3; have HG3 := Aside0.mk hg3; clear ho3 hg3)
  all_goals
    clear hwr
    go_wp2
    go_ret
    refine ⟨rfl, ?_, ?_, .slice (some ⟨go, 0, none⟩) m co, ?_, ?_⟩
    · exact ((FB.out.drew).trans ((Below.refl B0 _).grown HG3.out HX.out (fun k_ e_ => by cases e_; exact hgo) |>.mono HX2.out)).setCell (p := ⟨gq, 0, none⟩) (Nat.le_trans HX2.out HX3.out) _
    · intro k_ k1 k2 k4
      have k5 : k_ ≠ go := fun e_ => k4 (by rw [e_]; rfl)
      refine (Below.heap_setCell _ ⟨gq, 0, none⟩ _ k_ k2).trans ((HG3.out.block k_ (by show k_ < w2.heap.size; rw [FS.out]; exact k1) (fun e_ => k5 (Option.some.inj e_))).trans (FK.out k_ k5))
    · exact blk_put (cs := #[.slice (some ⟨go, 0, none⟩) (m + 1) co]) BKq3.out 0 _ rfl
    · exact Kd.R_set HO3.out BKq3.out (by decide) 0 _
def joinDo (l : List Int) (a b : Int) : Option (Int × List Int) := if a = b then some (2, []) else some (0, (l.set b.toNat (bits .or .u32 (rd l b) (rd l a))).eraseIdx a.toNat)
theorem pool_Join1.any (gq ga gb : Nat) (l : List Int) (a b : Int) (v : Value) (base B0 : Nat) (w : World) (err : Int) (l' : List Int)
    (hq : w.heap[gq]? = some (.cells #[v] 26 (0, 0))) (hR : Kd.R (Kd.int .u32) 31 w B0 (fun _ => True) v l)
    (ha : w.heap[ga]? = some (.cells #[.int .i64 a] 3 (0, 0))) (hb : w.heap[gb]? = some (.cells #[.int .i64 b] 3 (0, 0)))
    (h0 : 0 ≤ a) (h1 : a < l.length) (h2 : 0 ≤ b) (h3 : b < l.length) (hl : l.length < 35184372088832) (hB0 : ∀ g, g = ga ∨ g = gb → g < B0) (hB0w : B0 ≤ w.heap.size) (hbB : base ≤ B0) (hBq : B0 ≤ gq) (h : joinDo l a b = some (err, l')) :
    Calls Try.prog 48 #[.pointer (some ⟨gq, 0, none⟩), .pointer (some ⟨ga, 0, none⟩), .pointer (some ⟨gb, 0, none⟩)] w fun e W' => e = .returned (.int .i64 err) ∧ Below base w W' ∧ True ∧ (∀ k, k < w.heap.size → k ≠ gq → ¬ False → some k ≠ v.ownBlock → W'.heap[k]? = w.heap[k]?) ∧ (err = 0 → ∃ v', W'.heap[gq]? = some (.cells #[v'] 26 (0, 0)) ∧ Kd.R (Kd.int .u32) 31 W' B0 (fun _ => True) v' l') := by
  unfold joinDo at h
  by_cases hab : a = b
  · rw [if_pos hab] at h
    injection h with h; injection h with e1 e2
    subst e1
    refine (pool_Join1.same gq ga gb a b w ha hb hab).mono ?_
    rintro e W' ⟨rfl, m, rfl⟩
    exact ⟨rfl, (pw_below_drewN (Below.refl _ _) m).mono (Nat.le_trans hbB hB0w), trivial, fun _ _ _ _ _ => rfl, fun h => absurd h (by decide)⟩
  · rw [if_neg hab] at h
    injection h with h; injection h with e1 e2
    subst e1 e2
    obtain ⟨a, rfl⟩ := Int.eq_ofNat_of_zero_le h0
    obtain ⟨b, rfl⟩ := Int.eq_ofNat_of_zero_le h2
    obtain ⟨m, hm⟩ : ∃ m, l.length = m + 1 := ⟨l.length - 1, by omega⟩
    refine (pool_Join1.ok gq ga gb l m a b v base B0 w hq hR hm ha hb (by omega) (by omega) hl hB0 hB0w hbB hBq (by omega)).mono ?_
    rintro e W' ⟨rfl, a1, a2, a3⟩
    exact ⟨rfl, a1, trivial, fun k k1 k2 _ k4 => a2 k k1 k2 k4, fun _ => a3⟩
set_option maxHeartbeats 4000000 in
theorem pool_Join.does (k : Nat) (ad : Addr) (c0 : Nat) (l : List Int) (a b err : Int) (l' : List Int) (w : World) (hr : Kd.C (Kd.int .u32) w (some ad) l.length l) (hc : l.length ≤ c0) (hl : l.length < 35184372088832)
    (hec : pool_Check.f k l = some 0) (hp : pool_pool.f l [a, b] = some true) (h0 : 0 ≤ a) (h1 : a < l.length) (h2 : 0 ≤ b) (h3 : b < l.length) (hs : joinDo l a b = some (err, l')) (L : List Int) (hL : L = if err = 0 then l' else []) :
    Calls Try.prog 30 #[.agg #[.slice (some ad) l.length c0], .int .i64 a, .int .i64 b] w fun e w' => ∃ v0_ : Value, e = .returned (.tuple #[.agg #[v0_], .int .i64 err]) ∧ Kd.R (Kd.int .u32) 31 w' w.heap.size (fun _ => True) v0_ L ∧ Below w.heap.size w w' := by
  have HLL := Aside0.mk hL
  clear hL
  have HR := Aside0.mk hr
  have HC := Aside0.mk hc
  have HE := Aside0.mk hec
  have HP := Aside0.mk hp
  have HL := Aside0.mk hl
  have HS := Aside0.mk hs
  have H0 := Aside0.mk h0
  have H1 := Aside0.mk h1
  have H2 := Aside0.mk h2
  have H3 := Aside0.mk h3
  clear h2 h3
  have EG := Aside0.mk (enters_ Try.func48 (by kernel_rfl) rfl)
  clear hr hc hec hp hl hs h0 h1
  have HB := Aside0.mk (Below.refl w.heap.size w)
  go_enter Try.func30, Try.ntmps30
  go_wp2_with (first
    | ((with_reducible refine gate_dst (N := 3) rfl ?_); refine box_event ?hg (N := 3) ?hd (cs := #[.slice (some ad) l.length c0]) (t := 26) ?hr ?_; (case hd => rfl); (case hg => rfl); (case hr => first | (go_simp; done) | (go_simp; rfl)); intro gbp hg wbp hbox hb; have m0_ := Aside0.mk (below_step HB.out hb); have m1_ := Aside0.mk (hbox); have m2_ := Aside0.mk ((by rw [hg]; exact HB.out.size : w.heap.size ≤ gbp)); (try clear HB); have HB := m0_; have BKp := m1_; have GEp := m2_; clear m0_ m1_ m2_; clear hb hbox hg)
    | ((with_reducible refine gate_dst (N := 4) rfl ?_); refine box_event ?hg (N := 4) ?hd (cs := #[.int .i64 a]) (t := 3) ?hr ?_; (case hd => rfl); (case hg => rfl); (case hr => first | (go_simp; done) | (go_simp; rfl)); intro gba hg wba hbox hb; have m0_ := Aside0.mk (blk_below (g := gbp) (o := .cells #[.slice (some ad) l.length c0] 26 (0, 0)) BKp.out hb); have m1_ := Aside0.mk (below_step HB.out hb); have m2_ := Aside0.mk (hbox); have m3_ := Aside0.mk ((by rw [hg]; exact HB.out.size : w.heap.size ≤ gba)); have m4_ := Aside0.mk ((by rw [hg]; exact Nat.ne_of_lt (blk_lt BKp.out) : gbp ≠ gba)); have m5_ := Aside0.mk ((by rw [hg]; exact Nat.ne_of_gt (blk_lt BKp.out) : gba ≠ gbp)); (try clear BKp); (try clear HB); have BKp := m0_; have HB := m1_; have BKa := m2_; have GEa := m3_; have NBp_a := m4_; have NBa_p := m5_; clear m0_ m1_ m2_ m3_ m4_ m5_; clear hb hbox hg)
    | ((with_reducible refine gate_dst (N := 5) rfl ?_); refine box_event ?hg (N := 5) ?hd (cs := #[.int .i64 b]) (t := 3) ?hr ?_; (case hd => rfl); (case hg => rfl); (case hr => first | (go_simp; done) | (go_simp; rfl)); intro gbb hg wbb hbox hb; have m0_ := Aside0.mk (blk_below (g := gbp) (o := .cells #[.slice (some ad) l.length c0] 26 (0, 0)) BKp.out hb); have m1_ := Aside0.mk (blk_below (g := gba) (o := .cells #[.int .i64 a] 3 (0, 0)) BKa.out hb); have m2_ := Aside0.mk (below_step HB.out hb); have m3_ := Aside0.mk (hbox); have m4_ := Aside0.mk ((by rw [hg]; exact HB.out.size : w.heap.size ≤ gbb)); have m5_ := Aside0.mk ((by rw [hg]; exact Nat.ne_of_lt (blk_lt BKp.out) : gbp ≠ gbb)); have m6_ := Aside0.mk ((by rw [hg]; exact Nat.ne_of_gt (blk_lt BKp.out) : gbb ≠ gbp)); have m7_ := Aside0.mk ((by rw [hg]; exact Nat.ne_of_lt (blk_lt BKa.out) : gba ≠ gbb)); have m8_ := Aside0.mk ((by rw [hg]; exact Nat.ne_of_gt (blk_lt BKa.out) : gbb ≠ gba)); (try clear BKp); (try clear BKa); (try clear HB); have BKp := m0_; have BKa := m1_; have HB := m2_; have BKb := m3_; have GEb := m4_; have NBp_b := m5_; have NBb_p := m6_; have NBa_b := m7_; have NBb_a := m8_; clear m0_ m1_ m2_ m3_ m4_ m5_ m6_ m7_ m8_; clear hb hbox hg)
    | ((with_reducible refine gate_dst (N := 6) rfl ?_); refine box_event ?hg (N := 6) ?hd (cs := #[.slice none 0 0]) (t := 26) ?hr ?_; (case hd => rfl); (case hg => rfl); (case hr => first | (go_simp; done) | (go_simp; rfl)); intro gbq hg wbq hbox hb; have m0_ := Aside0.mk (blk_below (g := gbp) (o := .cells #[.slice (some ad) l.length c0] 26 (0, 0)) BKp.out hb); have m1_ := Aside0.mk (blk_below (g := gba) (o := .cells #[.int .i64 a] 3 (0, 0)) BKa.out hb); have m2_ := Aside0.mk (blk_below (g := gbb) (o := .cells #[.int .i64 b] 3 (0, 0)) BKb.out hb); have m3_ := Aside0.mk (below_step HB.out hb); have m4_ := Aside0.mk (hbox); have m5_ := Aside0.mk ((by rw [hg]; exact HB.out.size : w.heap.size ≤ gbq)); have m6_ := Aside0.mk ((by rw [hg]; exact Nat.ne_of_lt (blk_lt BKp.out) : gbp ≠ gbq)); have m7_ := Aside0.mk ((by rw [hg]; exact Nat.ne_of_gt (blk_lt BKp.out) : gbq ≠ gbp)); have m8_ := Aside0.mk ((by rw [hg]; exact Nat.ne_of_lt (blk_lt BKa.out) : gba ≠ gbq)); have m9_ := Aside0.mk ((by rw [hg]; exact Nat.ne_of_gt (blk_lt BKa.out) : gbq ≠ gba)); have m10_ := Aside0.mk ((by rw [hg]; exact Nat.ne_of_lt (blk_lt BKb.out) : gbb ≠ gbq)); have m11_ := Aside0.mk ((by rw [hg]; exact Nat.ne_of_gt (blk_lt BKb.out) : gbq ≠ gbb)); (try clear BKp); (try clear BKa); (try clear BKb); (try clear HB); have BKp := m0_; have BKa := m1_; have BKb := m2_; have HB := m3_; have BKq := m4_; have GEq := m5_; have NBp_q := m6_; have NBq_p := m7_; have NBa_q := m8_; have NBq_a := m9_; have NBb_q := m10_; have NBq_b := m11_; clear m0_ m1_ m2_ m3_ m4_ m5_ m6_ m7_ m8_ m9_ m10_ m11_; clear hb hbox hg; have hcz1_p_0 : World.cell? _ ⟨gbp, 0, none⟩ = some (.slice (some ad) l.length c0) := (blk_cell BKp.out 0).trans rfl; have hfz1_p := blk_frozen BKp.out 0; have hcz1_a_0 : World.cell? _ ⟨gba, 0, none⟩ = some (.int .i64 a) := (blk_cell BKa.out 0).trans rfl; have hfz1_a := blk_frozen BKa.out 0; have hcz1_b_0 : World.cell? _ ⟨gbb, 0, none⟩ = some (.int .i64 b) := (blk_cell BKb.out 0).trans rfl; have hfz1_b := blk_frozen BKb.out 0)
    | ((with_reducible refine gate_dst (N := 12) rfl ?_); refine Kd.R_lit (Kd.int .i64) _ 3 ?hg (N := 12) ?hd (xs := ([a, b] : List Int)) (inner := [.int .i64 a, .int .i64 b]) (ok := fun _ => True) (okp := fun _ => True) ?hr ?hp (fun _ hk => hk) trivial (Below.refl _ _) (Nat.le_refl _) (by simp) ?_; (case hd => rfl); (case hg => rfl); (case hr => first | (go_simp; done) | (go_simp; rfl)); (case hp => exact (Reps.snoc (R := Kd.M (Kd.int .i64) _ _ _) (Reps.one (show Kd.M (Kd.int .i64) _ _ _ a [.int .i64 a] from rfl) (Reps.none _ _)) (show Kd.M (Kd.int .i64) _ _ _ b [.int .i64 b] from rfl) rfl)); intro vns wl2 ho_ hb hg_ hnew_; clear hg_ hnew_; have m0_ := Aside0.mk (blk_below (g := gbp) (o := .cells #[.slice (some ad) l.length c0] 26 (0, 0)) BKp.out hb); have m1_ := Aside0.mk (blk_below (g := gba) (o := .cells #[.int .i64 a] 3 (0, 0)) BKa.out hb); have m2_ := Aside0.mk (blk_below (g := gbb) (o := .cells #[.int .i64 b] 3 (0, 0)) BKb.out hb); have m3_ := Aside0.mk (blk_below (g := gbq) (o := .cells #[.slice none 0 0] 26 (0, 0)) BKq.out hb); have m4_ := Aside0.mk (below_step HB.out hb); have m5_ := Aside0.mk (Kd.R_lower ho_ HB.out.size); (try clear BKp); (try clear BKa); (try clear BKb); (try clear BKq); (try clear HB); have BKp := m0_; have BKa := m1_; have BKb := m2_; have BKq := m3_; have HB := m4_; have HOns := m5_; clear m0_ m1_ m2_ m3_ m4_ m5_; clear hb ho_; obtain ⟨Ans, cns, ens⟩ := Kd.R_slice HOns.out; subst ens)
    | (go_at_call 45; (refine (pool_with.does 48 #[.pointer (some ⟨gba, 0, none⟩), .pointer (some ⟨gbb, 0, none⟩)] EG.out w.heap.size (fun _ => False) k ad c0 l _ _ [a, b] _ ?s1 HC.out ?s2 ?s3 HB.out.size ?s4 HE.out HP.out HL.out err l' (fun _ => True) ?s5 ?s6).mono ?_); (case s1 => exact Kd.C_below HR.out HB.out); (case s2 => exact (Kd.R_reads' HOns.out).2.2); (case s3 => exact (Kd.R_reads' HOns.out).2.1); (case s4 => exact fun k_ e_ => e_.elim); (case s5 => exact fun W_ W2_ h1_ h2_ => trivial); (case s6 => exact fun W_ gq_ v_ b_ q_ bq_ r_ => pool_Join1.any gq_ gba gbb l a b v_ w.heap.size _ W_ err l' bq_ r_ (blk_below BKa.out b_) (blk_below BKb.out b_) H0.out H1.out H2.out H3.out HL.out (fun g_ h_ => by rcases h_ with rfl | rfl; exact blk_lt BKa.out; exact blk_lt BKb.out) b_.size HB.out.size q_ HS.out); rintro e wr ⟨v, rfl, ho_, hbl_, hj_, hk_⟩; rw [← HLL.out] at ho_; clear HOns; clear hcz1_p_0 hfz1_p hcz1_a_0 hfz1_a hcz1_b_0 hfz1_b; have m0_ := Aside0.mk ((hk_ gbp (blk_lt BKp.out) (fun h_ => h_.elim)).trans BKp.out); have m1_ := Aside0.mk ((hk_ gba (blk_lt BKa.out) (fun h_ => h_.elim)).trans BKa.out); have m2_ := Aside0.mk ((hk_ gbb (blk_lt BKb.out) (fun h_ => h_.elim)).trans BKb.out); have m3_ := Aside0.mk ((hk_ gbq (blk_lt BKq.out) (fun h_ => h_.elim)).trans BKq.out); have m4_ := Aside0.mk (HB.out.trans hbl_); have m5_ := Aside0.mk (Kd.R_lower ho_ HB.out.size); (try clear BKp); (try clear BKa); (try clear BKb); (try clear BKq); (try clear HB); have BKp := m0_; have BKa := m1_; have BKb := m2_; have BKq := m3_; have HB := m4_; have HOv := m5_; clear m0_ m1_ m2_ m3_ m4_ m5_; clear ho_ hbl_ hj_ hk_; obtain ⟨Av, cv, ev⟩ := Kd.R_slice HOv.out; subst ev; have hcz3_q_0 : World.cell? _ ⟨gbq, 0, none⟩ = some (.slice none 0 0) := (blk_cell BKq.out 0).trans rfl; have hfz3_q := blk_frozen BKq.out 0))
  refine bodyPost_ret (results_ct rfl _ _ gbq 26 #[.slice Av (L).length cv] (0, 0) _ rfl (blk_put (cs := #[.slice none 0 0]) BKq.out 0 _ rfl) Try.underlying26 rfl (by kernel_rfl)) rfl ?_
  exact ⟨_, rfl, Kd.R_set HOv.out BKq.out (by decide) 0 _, HB.out.setCell GEq.out _⟩
set_option maxHeartbeats 4000000 in
theorem pool_Join.bad (k : Nat) (A0 : Option Addr) (c0 : Nat) (l : List Int) (a b : Int) (w : World) (hr : Kd.C (Kd.int .u32) w A0 l.length l) (hc : l.length ≤ c0) (e1 : Int) (hec : pool_Check.f k l = some e1) (hp : e1 ≠ 0) :
    Calls Try.prog 30 #[.agg #[.slice A0 l.length c0], .int .i64 a, .int .i64 b] w fun e w' => ∃ v0_ : Value, e = .returned (.tuple #[.agg #[v0_], .int .i64 e1]) ∧ Kd.R (Kd.int .u32) 31 w' w.heap.size (fun _ => True) v0_ [] ∧ Below w.heap.size w w' := by
  have HR := Aside0.mk hr
  have HC := Aside0.mk hc
  have HE := Aside0.mk hec
  have HP := Aside0.mk hp
  clear hr hc hec hp
  have HB := Aside0.mk (Below.refl w.heap.size w)
  go_enter Try.func30, Try.ntmps30
  go_wp2_with (first
    | ((with_reducible refine gate_dst (N := 3) rfl ?_); refine box_event ?hg (N := 3) ?hd (cs := #[.slice A0 l.length c0]) (t := 26) ?hr ?_; (case hd => rfl); (case hg => rfl); (case hr => first | (go_simp; done) | (go_simp; rfl)); intro gbp hg wbp hbox hb; have m0_ := Aside0.mk (below_step HB.out hb); have m1_ := Aside0.mk (hbox); have m2_ := Aside0.mk ((by rw [hg]; exact HB.out.size : w.heap.size ≤ gbp)); (try clear HB); have HB := m0_; have BKp := m1_; have GEp := m2_; clear m0_ m1_ m2_; clear hb hbox hg)
    | ((with_reducible refine gate_dst (N := 4) rfl ?_); refine box_event ?hg (N := 4) ?hd (cs := #[.int .i64 a]) (t := 3) ?hr ?_; (case hd => rfl); (case hg => rfl); (case hr => first | (go_simp; done) | (go_simp; rfl)); intro gba hg wba hbox hb; have m0_ := Aside0.mk (blk_below (g := gbp) (o := .cells #[.slice A0 l.length c0] 26 (0, 0)) BKp.out hb); have m1_ := Aside0.mk (below_step HB.out hb); have m2_ := Aside0.mk (hbox); have m3_ := Aside0.mk ((by rw [hg]; exact HB.out.size : w.heap.size ≤ gba)); have m4_ := Aside0.mk ((by rw [hg]; exact Nat.ne_of_lt (blk_lt BKp.out) : gbp ≠ gba)); have m5_ := Aside0.mk ((by rw [hg]; exact Nat.ne_of_gt (blk_lt BKp.out) : gba ≠ gbp)); (try clear BKp); (try clear HB); have BKp := m0_; have HB := m1_; have BKa := m2_; have GEa := m3_; have NBp_a := m4_; have NBa_p := m5_; clear m0_ m1_ m2_ m3_ m4_ m5_; clear hb hbox hg)
    | ((with_reducible refine gate_dst (N := 5) rfl ?_); refine box_event ?hg (N := 5) ?hd (cs := #[.int .i64 b]) (t := 3) ?hr ?_; (case hd => rfl); (case hg => rfl); (case hr => first | (go_simp; done) | (go_simp; rfl)); intro gbb hg wbb hbox hb; have m0_ := Aside0.mk (blk_below (g := gbp) (o := .cells #[.slice A0 l.length c0] 26 (0, 0)) BKp.out hb); have m1_ := Aside0.mk (blk_below (g := gba) (o := .cells #[.int .i64 a] 3 (0, 0)) BKa.out hb); have m2_ := Aside0.mk (below_step HB.out hb); have m3_ := Aside0.mk (hbox); have m4_ := Aside0.mk ((by rw [hg]; exact HB.out.size : w.heap.size ≤ gbb)); have m5_ := Aside0.mk ((by rw [hg]; exact Nat.ne_of_lt (blk_lt BKp.out) : gbp ≠ gbb)); have m6_ := Aside0.mk ((by rw [hg]; exact Nat.ne_of_gt (blk_lt BKp.out) : gbb ≠ gbp)); have m7_ := Aside0.mk ((by rw [hg]; exact Nat.ne_of_lt (blk_lt BKa.out) : gba ≠ gbb)); have m8_ := Aside0.mk ((by rw [hg]; exact Nat.ne_of_gt (blk_lt BKa.out) : gbb ≠ gba)); (try clear BKp); (try clear BKa); (try clear HB); have BKp := m0_; have BKa := m1_; have HB := m2_; have BKb := m3_; have GEb := m4_; have NBp_b := m5_; have NBb_p := m6_; have NBa_b := m7_; have NBb_a := m8_; clear m0_ m1_ m2_ m3_ m4_ m5_ m6_ m7_ m8_; clear hb hbox hg)
    | ((with_reducible refine gate_dst (N := 6) rfl ?_); refine box_event ?hg (N := 6) ?hd (cs := #[.slice none 0 0]) (t := 26) ?hr ?_; (case hd => rfl); (case hg => rfl); (case hr => first | (go_simp; done) | (go_simp; rfl)); intro gbq hg wbq hbox hb; have m0_ := Aside0.mk (blk_below (g := gbp) (o := .cells #[.slice A0 l.length c0] 26 (0, 0)) BKp.out hb); have m1_ := Aside0.mk (blk_below (g := gba) (o := .cells #[.int .i64 a] 3 (0, 0)) BKa.out hb); have m2_ := Aside0.mk (blk_below (g := gbb) (o := .cells #[.int .i64 b] 3 (0, 0)) BKb.out hb); have m3_ := Aside0.mk (below_step HB.out hb); have m4_ := Aside0.mk (hbox); have m5_ := Aside0.mk ((by rw [hg]; exact HB.out.size : w.heap.size ≤ gbq)); have m6_ := Aside0.mk ((by rw [hg]; exact Nat.ne_of_lt (blk_lt BKp.out) : gbp ≠ gbq)); have m7_ := Aside0.mk ((by rw [hg]; exact Nat.ne_of_gt (blk_lt BKp.out) : gbq ≠ gbp)); have m8_ := Aside0.mk ((by rw [hg]; exact Nat.ne_of_lt (blk_lt BKa.out) : gba ≠ gbq)); have m9_ := Aside0.mk ((by rw [hg]; exact Nat.ne_of_gt (blk_lt BKa.out) : gbq ≠ gba)); have m10_ := Aside0.mk ((by rw [hg]; exact Nat.ne_of_lt (blk_lt BKb.out) : gbb ≠ gbq)); have m11_ := Aside0.mk ((by rw [hg]; exact Nat.ne_of_gt (blk_lt BKb.out) : gbq ≠ gbb)); (try clear BKp); (try clear BKa); (try clear BKb); (try clear HB); have BKp := m0_; have BKa := m1_; have BKb := m2_; have HB := m3_; have BKq := m4_; have GEq := m5_; have NBp_q := m6_; have NBq_p := m7_; have NBa_q := m8_; have NBq_a := m9_; have NBb_q := m10_; have NBq_b := m11_; clear m0_ m1_ m2_ m3_ m4_ m5_ m6_ m7_ m8_ m9_ m10_ m11_; clear hb hbox hg; have hcz1_p_0 : World.cell? _ ⟨gbp, 0, none⟩ = some (.slice A0 l.length c0) := (blk_cell BKp.out 0).trans rfl; have hfz1_p := blk_frozen BKp.out 0; have hcz1_a_0 : World.cell? _ ⟨gba, 0, none⟩ = some (.int .i64 a) := (blk_cell BKa.out 0).trans rfl; have hfz1_a := blk_frozen BKa.out 0; have hcz1_b_0 : World.cell? _ ⟨gbb, 0, none⟩ = some (.int .i64 b) := (blk_cell BKb.out 0).trans rfl; have hfz1_b := blk_frozen BKb.out 0)
    | ((with_reducible refine gate_dst (N := 12) rfl ?_); refine Kd.R_lit (Kd.int .i64) _ 3 ?hg (N := 12) ?hd (xs := ([a, b] : List Int)) (inner := [.int .i64 a, .int .i64 b]) (ok := fun _ => True) (okp := fun _ => True) ?hr ?hp (fun _ hk => hk) trivial (Below.refl _ _) (Nat.le_refl _) (by simp) ?_; (case hd => rfl); (case hg => rfl); (case hr => first | (go_simp; done) | (go_simp; rfl)); (case hp => exact (Reps.snoc (R := Kd.M (Kd.int .i64) _ _ _) (Reps.one (show Kd.M (Kd.int .i64) _ _ _ a [.int .i64 a] from rfl) (Reps.none _ _)) (show Kd.M (Kd.int .i64) _ _ _ b [.int .i64 b] from rfl) rfl)); intro vns wl2 ho_ hb hg_ hnew_; clear hg_ hnew_; have m0_ := Aside0.mk (blk_below (g := gbp) (o := .cells #[.slice A0 l.length c0] 26 (0, 0)) BKp.out hb); have m1_ := Aside0.mk (blk_below (g := gba) (o := .cells #[.int .i64 a] 3 (0, 0)) BKa.out hb); have m2_ := Aside0.mk (blk_below (g := gbb) (o := .cells #[.int .i64 b] 3 (0, 0)) BKb.out hb); have m3_ := Aside0.mk (blk_below (g := gbq) (o := .cells #[.slice none 0 0] 26 (0, 0)) BKq.out hb); have m4_ := Aside0.mk (below_step HB.out hb); have m5_ := Aside0.mk (Kd.R_lower ho_ HB.out.size); (try clear BKp); (try clear BKa); (try clear BKb); (try clear BKq); (try clear HB); have BKp := m0_; have BKa := m1_; have BKb := m2_; have BKq := m3_; have HB := m4_; have HOns := m5_; clear m0_ m1_ m2_ m3_ m4_ m5_; clear hb ho_; obtain ⟨Ans, cns, ens⟩ := Kd.R_slice HOns.out; subst ens)
    | (go_at_call 45; (refine (pool_with.bad 48 #[.pointer (some ⟨gba, 0, none⟩), .pointer (some ⟨gbb, 0, none⟩)] k A0 c0 l _ _ [a, b] _ ?s1 HC.out ?s2 ?s3 e1 HE.out HP.out).mono ?_); (case s1 => exact Kd.C_below HR.out HB.out); (case s2 => exact (Kd.R_reads' HOns.out).2.2); (case s3 => exact (Kd.R_reads' HOns.out).2.1); rintro e wr ⟨rfl, hb⟩; clear HOns; clear hcz1_p_0 hfz1_p hcz1_a_0 hfz1_a hcz1_b_0 hfz1_b; have m0_ := Aside0.mk (blk_below (g := gbp) (o := .cells #[.slice A0 l.length c0] 26 (0, 0)) BKp.out hb); have m1_ := Aside0.mk (blk_below (g := gba) (o := .cells #[.int .i64 a] 3 (0, 0)) BKa.out hb); have m2_ := Aside0.mk (blk_below (g := gbb) (o := .cells #[.int .i64 b] 3 (0, 0)) BKb.out hb); have m3_ := Aside0.mk (blk_below (g := gbq) (o := .cells #[.slice none 0 0] 26 (0, 0)) BKq.out hb); have m4_ := Aside0.mk (below_step HB.out hb); (try clear BKp); (try clear BKa); (try clear BKb); (try clear BKq); (try clear HB); have BKp := m0_; have BKa := m1_; have BKb := m2_; have BKq := m3_; have HB := m4_; clear m0_ m1_ m2_ m3_ m4_; clear hb; have HOv := Aside0.mk (Kd.R_nil (Kd.int .u32) 31 wr w.heap.size (fun _ => True)); have hcz3_q_0 : World.cell? _ ⟨gbq, 0, none⟩ = some (.slice none 0 0) := (blk_cell BKq.out 0).trans rfl; have hfz3_q := blk_frozen BKq.out 0))
  refine bodyPost_ret (results_ct rfl _ _ gbq 26 #[.slice none 0 0] (0, 0) _ rfl (blk_put (cs := #[.slice none 0 0]) BKq.out 0 _ rfl) Try.underlying26 rfl (by kernel_rfl)) rfl ?_
  exact ⟨_, rfl, Kd.R_set HOv.out BKq.out (by decide) 0 _, HB.out.setCell GEq.out _⟩
set_option maxHeartbeats 4000000 in
theorem pool_Join.lacks (k : Nat) (A0 : Option Addr) (c0 : Nat) (l : List Int) (a b : Int) (w : World) (hr : Kd.C (Kd.int .u32) w A0 l.length l) (hc : l.length ≤ c0) (hec : pool_Check.f k l = some 0) (hp : pool_pool.f l [a, b] = some false) :
    Calls Try.prog 30 #[.agg #[.slice A0 l.length c0], .int .i64 a, .int .i64 b] w fun e w' => ∃ v0_ : Value, e = .returned (.tuple #[.agg #[v0_], .int .i64 4]) ∧ Kd.R (Kd.int .u32) 31 w' w.heap.size (fun _ => True) v0_ [] ∧ Below w.heap.size w w' := by
  have HR := Aside0.mk hr
  have HC := Aside0.mk hc
  have HE := Aside0.mk hec
  have HP := Aside0.mk hp
  clear hr hc hec hp
  have HB := Aside0.mk (Below.refl w.heap.size w)
  go_enter Try.func30, Try.ntmps30
  go_wp2_with (first
    | ((with_reducible refine gate_dst (N := 3) rfl ?_); refine box_event ?hg (N := 3) ?hd (cs := #[.slice A0 l.length c0]) (t := 26) ?hr ?_; (case hd => rfl); (case hg => rfl); (case hr => first | (go_simp; done) | (go_simp; rfl)); intro gbp hg wbp hbox hb; have m0_ := Aside0.mk (below_step HB.out hb); have m1_ := Aside0.mk (hbox); have m2_ := Aside0.mk ((by rw [hg]; exact HB.out.size : w.heap.size ≤ gbp)); (try clear HB); have HB := m0_; have BKp := m1_; have GEp := m2_; clear m0_ m1_ m2_; clear hb hbox hg)
    | ((with_reducible refine gate_dst (N := 4) rfl ?_); refine box_event ?hg (N := 4) ?hd (cs := #[.int .i64 a]) (t := 3) ?hr ?_; (case hd => rfl); (case hg => rfl); (case hr => first | (go_simp; done) | (go_simp; rfl)); intro gba hg wba hbox hb; have m0_ := Aside0.mk (blk_below (g := gbp) (o := .cells #[.slice A0 l.length c0] 26 (0, 0)) BKp.out hb); have m1_ := Aside0.mk (below_step HB.out hb); have m2_ := Aside0.mk (hbox); have m3_ := Aside0.mk ((by rw [hg]; exact HB.out.size : w.heap.size ≤ gba)); have m4_ := Aside0.mk ((by rw [hg]; exact Nat.ne_of_lt (blk_lt BKp.out) : gbp ≠ gba)); have m5_ := Aside0.mk ((by rw [hg]; exact Nat.ne_of_gt (blk_lt BKp.out) : gba ≠ gbp)); (try clear BKp); (try clear HB); have BKp := m0_; have HB := m1_; have BKa := m2_; have GEa := m3_; have NBp_a := m4_; have NBa_p := m5_; clear m0_ m1_ m2_ m3_ m4_ m5_; clear hb hbox hg)
    | ((with_reducible refine gate_dst (N := 5) rfl ?_); refine box_event ?hg (N := 5) ?hd (cs := #[.int .i64 b]) (t := 3) ?hr ?_; (case hd => rfl); (case hg => rfl); (case hr => first | (go_simp; done) | (go_simp; rfl)); intro gbb hg wbb hbox hb; have m0_ := Aside0.mk (blk_below (g := gbp) (o := .cells #[.slice A0 l.length c0] 26 (0, 0)) BKp.out hb); have m1_ := Aside0.mk (blk_below (g := gba) (o := .cells #[.int .i64 a] 3 (0, 0)) BKa.out hb); have m2_ := Aside0.mk (below_step HB.out hb); have m3_ := Aside0.mk (hbox); have m4_ := Aside0.mk ((by rw [hg]; exact HB.out.size : w.heap.size ≤ gbb)); have m5_ := Aside0.mk ((by rw [hg]; exact Nat.ne_of_lt (blk_lt BKp.out) : gbp ≠ gbb)); have m6_ := Aside0.mk ((by rw [hg]; exact Nat.ne_of_gt (blk_lt BKp.out) : gbb ≠ gbp)); have m7_ := Aside0.mk ((by rw [hg]; exact Nat.ne_of_lt (blk_lt BKa.out) : gba ≠ gbb)); have m8_ := Aside0.mk ((by rw [hg]; exact Nat.ne_of_gt (blk_lt BKa.out) : gbb ≠ gba)); (try clear BKp); (try clear BKa); (try clear HB); have BKp := m0_; have BKa := m1_; have HB := m2_; have BKb := m3_; have GEb := m4_; have NBp_b := m5_; have NBb_p := m6_; have NBa_b := m7_; have NBb_a := m8_; clear m0_ m1_ m2_ m3_ m4_ m5_ m6_ m7_ m8_; clear hb hbox hg)
    | ((with_reducible refine gate_dst (N := 6) rfl ?_); refine box_event ?hg (N := 6) ?hd (cs := #[.slice none 0 0]) (t := 26) ?hr ?_; (case hd => rfl); (case hg => rfl); (case hr => first | (go_simp; done) | (go_simp; rfl)); intro gbq hg wbq hbox hb; have m0_ := Aside0.mk (blk_below (g := gbp) (o := .cells #[.slice A0 l.length c0] 26 (0, 0)) BKp.out hb); have m1_ := Aside0.mk (blk_below (g := gba) (o := .cells #[.int .i64 a] 3 (0, 0)) BKa.out hb); have m2_ := Aside0.mk (blk_below (g := gbb) (o := .cells #[.int .i64 b] 3 (0, 0)) BKb.out hb); have m3_ := Aside0.mk (below_step HB.out hb); have m4_ := Aside0.mk (hbox); have m5_ := Aside0.mk ((by rw [hg]; exact HB.out.size : w.heap.size ≤ gbq)); have m6_ := Aside0.mk ((by rw [hg]; exact Nat.ne_of_lt (blk_lt BKp.out) : gbp ≠ gbq)); have m7_ := Aside0.mk ((by rw [hg]; exact Nat.ne_of_gt (blk_lt BKp.out) : gbq ≠ gbp)); have m8_ := Aside0.mk ((by rw [hg]; exact Nat.ne_of_lt (blk_lt BKa.out) : gba ≠ gbq)); have m9_ := Aside0.mk ((by rw [hg]; exact Nat.ne_of_gt (blk_lt BKa.out) : gbq ≠ gba)); have m10_ := Aside0.mk ((by rw [hg]; exact Nat.ne_of_lt (blk_lt BKb.out) : gbb ≠ gbq)); have m11_ := Aside0.mk ((by rw [hg]; exact Nat.ne_of_gt (blk_lt BKb.out) : gbq ≠ gbb)); (try clear BKp); (try clear BKa); (try clear BKb); (try clear HB); have BKp := m0_; have BKa := m1_; have BKb := m2_; have HB := m3_; have BKq := m4_; have GEq := m5_; have NBp_q := m6_; have NBq_p := m7_; have NBa_q := m8_; have NBq_a := m9_; have NBb_q := m10_; have NBq_b := m11_; clear m0_ m1_ m2_ m3_ m4_ m5_ m6_ m7_ m8_ m9_ m10_ m11_; clear hb hbox hg; have hcz1_p_0 : World.cell? _ ⟨gbp, 0, none⟩ = some (.slice A0 l.length c0) := (blk_cell BKp.out 0).trans rfl; have hfz1_p := blk_frozen BKp.out 0; have hcz1_a_0 : World.cell? _ ⟨gba, 0, none⟩ = some (.int .i64 a) := (blk_cell BKa.out 0).trans rfl; have hfz1_a := blk_frozen BKa.out 0; have hcz1_b_0 : World.cell? _ ⟨gbb, 0, none⟩ = some (.int .i64 b) := (blk_cell BKb.out 0).trans rfl; have hfz1_b := blk_frozen BKb.out 0)
    | ((with_reducible refine gate_dst (N := 12) rfl ?_); refine Kd.R_lit (Kd.int .i64) _ 3 ?hg (N := 12) ?hd (xs := ([a, b] : List Int)) (inner := [.int .i64 a, .int .i64 b]) (ok := fun _ => True) (okp := fun _ => True) ?hr ?hp (fun _ hk => hk) trivial (Below.refl _ _) (Nat.le_refl _) (by simp) ?_; (case hd => rfl); (case hg => rfl); (case hr => first | (go_simp; done) | (go_simp; rfl)); (case hp => exact (Reps.snoc (R := Kd.M (Kd.int .i64) _ _ _) (Reps.one (show Kd.M (Kd.int .i64) _ _ _ a [.int .i64 a] from rfl) (Reps.none _ _)) (show Kd.M (Kd.int .i64) _ _ _ b [.int .i64 b] from rfl) rfl)); intro vns wl2 ho_ hb hg_ hnew_; clear hg_ hnew_; have m0_ := Aside0.mk (blk_below (g := gbp) (o := .cells #[.slice A0 l.length c0] 26 (0, 0)) BKp.out hb); have m1_ := Aside0.mk (blk_below (g := gba) (o := .cells #[.int .i64 a] 3 (0, 0)) BKa.out hb); have m2_ := Aside0.mk (blk_below (g := gbb) (o := .cells #[.int .i64 b] 3 (0, 0)) BKb.out hb); have m3_ := Aside0.mk (blk_below (g := gbq) (o := .cells #[.slice none 0 0] 26 (0, 0)) BKq.out hb); have m4_ := Aside0.mk (below_step HB.out hb); have m5_ := Aside0.mk (Kd.R_lower ho_ HB.out.size); (try clear BKp); (try clear BKa); (try clear BKb); (try clear BKq); (try clear HB); have BKp := m0_; have BKa := m1_; have BKb := m2_; have BKq := m3_; have HB := m4_; have HOns := m5_; clear m0_ m1_ m2_ m3_ m4_ m5_; clear hb ho_; obtain ⟨Ans, cns, ens⟩ := Kd.R_slice HOns.out; subst ens)
    | (go_at_call 45; (refine (pool_with.lacks 48 #[.pointer (some ⟨gba, 0, none⟩), .pointer (some ⟨gbb, 0, none⟩)] k A0 c0 l _ _ [a, b] _ ?s1 HC.out ?s2 ?s3 HE.out HP.out).mono ?_); (case s1 => exact Kd.C_below HR.out HB.out); (case s2 => exact (Kd.R_reads' HOns.out).2.2); (case s3 => exact (Kd.R_reads' HOns.out).2.1); rintro e wr ⟨rfl, hb⟩; clear HOns; clear hcz1_p_0 hfz1_p hcz1_a_0 hfz1_a hcz1_b_0 hfz1_b; have m0_ := Aside0.mk (blk_below (g := gbp) (o := .cells #[.slice A0 l.length c0] 26 (0, 0)) BKp.out hb); have m1_ := Aside0.mk (blk_below (g := gba) (o := .cells #[.int .i64 a] 3 (0, 0)) BKa.out hb); have m2_ := Aside0.mk (blk_below (g := gbb) (o := .cells #[.int .i64 b] 3 (0, 0)) BKb.out hb); have m3_ := Aside0.mk (blk_below (g := gbq) (o := .cells #[.slice none 0 0] 26 (0, 0)) BKq.out hb); have m4_ := Aside0.mk (below_step HB.out hb); (try clear BKp); (try clear BKa); (try clear BKb); (try clear BKq); (try clear HB); have BKp := m0_; have BKa := m1_; have BKb := m2_; have BKq := m3_; have HB := m4_; clear m0_ m1_ m2_ m3_ m4_; clear hb; have HOv := Aside0.mk (Kd.R_nil (Kd.int .u32) 31 wr w.heap.size (fun _ => True)); have hcz3_q_0 : World.cell? _ ⟨gbq, 0, none⟩ = some (.slice none 0 0) := (blk_cell BKq.out 0).trans rfl; have hfz3_q := blk_frozen BKq.out 0))
  refine bodyPost_ret (results_ct rfl _ _ gbq 26 #[.slice none 0 0] (0, 0) _ rfl (blk_put (cs := #[.slice none 0 0]) BKq.out 0 _ rfl) Try.underlying26 rfl (by kernel_rfl)) rfl ?_
  exact ⟨_, rfl, Kd.R_set HOv.out BKq.out (by decide) 0 _, HB.out.setCell GEq.out _⟩
def pool_Join.f (k : Nat) (l0_0 : List Int) (a1 : Int) (a2 : Int) : Option (List Int × Int) :=
  if l0_0.length < 35184372088832 then (pool_Check.f k l0_0).bind fun e => if e ≠ 0 then some ([], e) else (pool_pool.f l0_0 [a1, a2]).bind fun ok => if ok = false then some ([], 4) else (joinDo l0_0 a1 a2).bind fun x => some (if x.1 = 0 then x.2 else [], x.1) else none
theorem pool_Join.mono : ∀ a0 a1 a2 k, LeO (pool_Join.f k a0 a1 a2) (pool_Join.f (k + 1) a0 a1 a2) := by
  intro a0 a1 a2 k
  unfold pool_Join.f
  split
  · exact LeO.bind (pool_Check.mono a0 k) (fun _ => LeO.refl _)
  · exact LeO.refl _
theorem pool_pool.two {l : List Int} {n m : Int} (h : pool_pool.f l [n, m] = some true) : (0 ≤ n ∧ n < l.length) ∧ 0 ≤ m ∧ m < l.length := by
  unfold pool_pool.f at h
  simp at h
  omega
theorem pool_Join.calls (k : Nat) (A0_0 : Option Addr) (c0_0 : Nat) (l0_0 : List Int) (a1 : Int) (a2 : Int) (r1 : List Int) (r2 : Int) (w : World) (hr0_0 : Kd.C (Kd.int .u32) w A0_0 l0_0.length l0_0) (hc0_0 : l0_0.length ≤ c0_0) (h : pool_Join.f k l0_0 a1 a2 = some (r1, r2)) :
    Calls Try.prog 30 #[.agg #[.slice A0_0 l0_0.length c0_0], .int .i64 a1, .int .i64 a2] w fun e w' => ∃ v0_ : Value, e = .returned (.tuple #[.agg #[v0_], .int .i64 r2]) ∧ Kd.R (Kd.int .u32) 31 w' w.heap.size (fun _ => True) v0_ r1 ∧ Below w.heap.size w w' := by
  unfold pool_Join.f at h
  split at h
  case isFalse => cases h
  case isTrue hl =>
  obtain ⟨e, he, h⟩ := Option.bind_eq_some_iff.mp h
  by_cases e0 : e = 0
  case neg =>
    rw [if_pos e0] at h
    injection h with h; injection h with h1 h2
    subst h1 h2
    exact pool_Join.bad k A0_0 c0_0 l0_0 a1 a2 w hr0_0 hc0_0 e he e0
  subst e0
  rw [if_neg (by simp)] at h
  obtain ⟨ok, hok, h⟩ := Option.bind_eq_some_iff.mp h
  cases ok
  · rw [if_pos rfl] at h
    injection h with h; injection h with h1 h2
    subst h1 h2
    exact pool_Join.lacks k A0_0 c0_0 l0_0 a1 a2 w hr0_0 hc0_0 he hok
  rw [if_neg (by simp)] at h
  obtain ⟨⟨err, l'⟩, hx, h⟩ := Option.bind_eq_some_iff.mp h
  injection h with h; injection h with h1 h2
  subst h2
  obtain ⟨⟨h0, h1'⟩, h2, h3⟩ := pool_pool.two hok
  obtain ⟨ad, rfl, _⟩ := Kd.at_int hr0_0 a1 h0 h1'
  exact pool_Join.does k ad c0_0 l0_0 a1 a2 err l' w hr0_0 hc0_0 hl he hok h0 h1' h2 h3 hx r1 h1.symm

end Go.Proofs.Ytkhbffjfclepfaa.Q

/- Function 53, mainsheet_cpuset_bit: contracts over the given program's functions, one a function; no condition beyond those that each theorem states. Written by this session's program over the kit's printer, and by hand. -/
namespace Go.Proofs.Ytkhbffjfclepfaa.Q
open Go.RowKit Go.Proofs.YtkhbffjfclepfaaW.PrintWords Go.Proofs.YtkhbffjfclepfaaW.PrintLast Go.Proofs.YtkhbffjfclepfaaW.PrintMore
attribute [local go_sem] max2_int min2_int max_two min_two max_three min_three max_four min_four
set_option linter.unusedVariables false
set_option linter.unusedSimpArgs false

/-! ### cpuset_bit: function 53 -/
def cpuset_bit.f (a0 : Int) : Option (Int) := if a0 < 0 then (some 0) else (if a0 ≥ 8 then (some 0) else (if 0 ≤ a0 then (some (shl .u32 1 a0)) else (none)))
set_option maxHeartbeats 8000000 in
set_option maxRecDepth 100000 in
theorem cpuset_bit.calls (a0 : Int) (r : Int) (w : World) (h : cpuset_bit.f a0 = some r) :
    Calls Try.prog 53 #[.int .i64 a0] w fun e w' => e = .returned (.int .u32 r) ∧ Drawn0 w w' := by
  have H : (if a0 < 0 then (some 0) else (if a0 ≥ 8 then (some 0) else (if 0 ≤ a0 then (some (shl .u32 1 a0)) else (none)))) = some r := h
  clear h
  by_cases c2 : a0 < 0
  · rw [if_pos c2] at H
    have c2b0 : decide (a0 < 0) = true := decide_eq_true c2
    clear c2
    obtain rfl := Option.some.inj H
    go_enter Try.func53, Try.ntmps53
    go_wp2
    go_ret
    exact ⟨by first | rfl | (simp; done) | (simp [*]; done), by repeat (first | exact Drawn0.refl _ | apply Drawn0.step)⟩
  · rw [if_neg c2] at H
    have c2b0 : decide (a0 < 0) = false := decide_eq_false c2
    clear c2
    by_cases c3 : a0 ≥ 8
    · rw [if_pos c3] at H
      have c3b0 : decide (8 ≤ a0) = true := decide_eq_true c3
      clear c3
      obtain rfl := Option.some.inj H
      go_enter Try.func53, Try.ntmps53
      go_wp2
      go_ret
      exact ⟨by first | rfl | (simp; done) | (simp [*]; done), by repeat (first | exact Drawn0.refl _ | apply Drawn0.step)⟩
    · rw [if_neg c3] at H
      have c3b0 : decide (8 ≤ a0) = false := decide_eq_false c3
      clear c3
      by_cases c4 : 0 ≤ a0
      · rw [if_pos c4] at H
        have c4b0 := eq_true c4
        have c4b1 : decide (0 ≤ a0) = true := decide_eq_true c4
        clear c4
        obtain ⟨ji5, hji5⟩ : ∃ j_ : Int, (shl .u32 1 a0) = j_ := ⟨_, rfl⟩
        replace H : (some ji5) = some r := by first | (rw [hji5] at H; exact H) | (simp only [hji5] at H ⊢; exact H)
        have hji5_ : (IntKind.u32.wrap (1 * 2 ^ min a0.toNat 32)) = ji5 := hji5
        have hji5z : a0 ≤ 32 → (IntKind.u32.wrap (1 * 2 ^ a0.toNat)) = ji5 := shl_small hji5
        have hji5u : (IntKind.u32.wrap (2 ^ min a0.toNat 32)) = ji5 := by have h_ := hji5_; rw [Int.one_mul] at h_; exact h_
        have hji5v : a0 ≤ 32 → (IntKind.u32.wrap (2 ^ a0.toNat)) = ji5 := fun hle_ => by have h_ := hji5z hle_; rw [Int.one_mul] at h_; exact h_
        obtain rfl := Option.some.inj H
        go_enter Try.func53, Try.ntmps53
        go_wp2
        go_ret
        exact ⟨by first | rfl | (simp; done) | (simp only [← hji5] <;> (first | rfl | simp)) | (simp [*]; done), by repeat (first | exact Drawn0.refl _ | apply Drawn0.step)⟩
      · rw [if_neg c4] at H
        exact absurd H (by simp)

end Go.Proofs.Ytkhbffjfclepfaa.Q

/- Function 42, mainsheet_cpuset_Has: contracts over the given program's functions, one a function; no condition beyond those that each theorem states. Written by this session's program over the kit's printer, and by hand. -/
namespace Go.Proofs.Ytkhbffjfclepfaa.Q
open Go.RowKit Go.Proofs.YtkhbffjfclepfaaW.PrintWords Go.Proofs.YtkhbffjfclepfaaW.PrintLast Go.Proofs.YtkhbffjfclepfaaW.PrintMore
attribute [local go_sem] max2_int min2_int max_two min_two max_three min_three max_four min_four
set_option linter.unusedVariables false
set_option linter.unusedSimpArgs false

/-! ### cpuset_Has: function 42 -/
def cpuset_Has.f (a0 : Int) (a1 : Int) : Option (Bool) := (cpuset_bit.f a1).bind fun t510 => (some ((Go.bits .and .u32 a0 t510) != 0))
set_option maxHeartbeats 8000000 in
set_option maxRecDepth 100000 in
theorem cpuset_Has.calls (a0 : Int) (a1 : Int) (r : Bool) (w : World) (h : cpuset_Has.f a0 a1 = some r) :
    Calls Try.prog 42 #[.int .u32 a0, .int .i64 a1] w fun e w' => e = .returned (.bool r) ∧ Drawn0 w w' := by
  have H : ((cpuset_bit.f a1).bind fun t510 => (some ((Go.bits .and .u32 a0 t510) != 0))) = some r := h
  clear h
  replace H := Option.bind_eq_some_iff.mp H
  obtain ⟨t510, A30, H⟩ := H
  replace H : (some ((Go.bits .and .u32 a0 t510) != 0)) = some r := H
  have A3 := Aside0.mk A30
  clear A30
  obtain rfl := Option.some.inj H
  go_enter Try.func42, Try.ntmps42
  go_wp2_with (first | ((with_reducible refine gate_callee (f := 53) rfl ?_); refine goesL_ (some 7) rfl rfl Try.func53 (by kernel_rfl) rfl #[.int .i64 a1] rfl (by (try simp only [List.map_toArray, List.map_cons, List.map_nil]); first | done | rfl | (simp only [List.length_drop, List.length_take]; rfl)) ?_; (with_reducible refine (cpuset_bit.calls a1 t510 _ A3.out).mono ?_); rintro e w' ⟨rfl, ⟨nd, rfl⟩⟩; refine ⟨_, rfl, ?_⟩))
  go_ret
  exact ⟨by first | rfl | (simp; done) | (simp [*]; done), by repeat (first | exact Drawn0.refl _ | apply Drawn0.step)⟩

end Go.Proofs.Ytkhbffjfclepfaa.Q

/- Function 40, slices_IndexFunc___mainsheet_api_Cpus_mainsheet_api_Cpus_: contracts over the given program's functions, one a function; no condition beyond those that each theorem states. Written by this session's program over the kit's printer, and by hand. -/
namespace Go.Proofs.Ytkhbffjfclepfaa.Q
open Go.RowKit Go.Proofs.YtkhbffjfclepfaaW.PrintWords Go.Proofs.YtkhbffjfclepfaaW.PrintLast Go.Proofs.YtkhbffjfclepfaaW.PrintMore
attribute [local go_sem] max2_int min2_int max_two min_two max_three min_three max_four min_four
set_option linter.unusedVariables false
set_option linter.unusedSimpArgs false

/-! ### slices_IndexFunc_cpus: function 40, by hand -/
set_option maxHeartbeats 2000000 in
theorem slices_IndexFunc_cpus.any (g : Nat) (lb : Array Value) (eg : ∀ args w, (callFunc g args).run Try.prog w = .ok (.enter g args) w) (p : Int → Bool) (A : Option Addr) (c : Nat) (xs : List Int) (w : World)
    (hr : Kd.C (Kd.int .u32) w A xs.length xs) (hlen : xs.length ≤ 35184372088832)
    (hp : ∀ W, Below w.heap.size w W → ∀ x ∈ xs, Calls Try.prog g (#[.int .u32 x] ++ lb) W fun e W' => e = .returned (.bool (p x)) ∧ Below W.heap.size W W') :
    Calls Try.prog 40 #[.slice A xs.length c, .func (.func g) #[] lb] w fun e w' => e = .returned (.int .i64 (idxOf p xs)) ∧ Below w.heap.size w w' := by
  have HP := Aside0.mk hp
  have HR := Aside0.mk hr
  clear hp hr
  go_enter Try.func40, Try.ntmps40
  go_wp2
  go_loopg [5, 8] xs.length (fun gg _ s8 wr => ∃ kk : Nat, s8 = .int .i64 kk ∧ kk ≤ xs.length ∧ xs.length - kk ≤ gg ∧ Aside0 (Below w.heap.size w wr) ∧ Aside0 (∀ j (hj : j < kk) (hj2 : j < xs.length), p xs[j] = false))
  case atStart => exact ⟨0, rfl, Nat.zero_le _, by omega, ⟨Below.refl _ _⟩, ⟨fun j hj => absurd hj (Nat.not_lt_zero _)⟩⟩
  case round =>
    obtain ⟨kk, rfl, hkk, hg, HB, HN⟩ := hrel
    by_cases hlt : kk < xs.length
    · have hltz : (kk : Int) < (xs.length : Int) := by omega
      obtain ⟨ad, rfl, hcell⟩ := Kd.at_int (Kd.C_below HR.out HB.out) (kk : Int) (by omega) (by omega)
      have hx := List.getElem_mem hlt
      have hrd : rd xs (kk : Int) = xs[kk] := by unfold rd; simp [hlt]
      rw [hrd] at hcell
      simp only [Int.toNat_natCast] at hcell
      have hcall := HP.out _ HB.out _ hx
      generalize hy : xs[kk] = y at hcell hcall hx
      have HY := Aside0.mk hy
      clear hy hx hrd
      cases hq : p y with
      | true =>
        rw [hq] at hcall
        go_wp2_with (go_at_fn g; refine hcall.mono ?_; rintro e w' ⟨rfl, hb'⟩)
        go_ret
        refine ⟨?_, HB.out.trans (hb'.mono (below_size HB.out))⟩
        rw [idxOf_hit hlt (by rw [HY.out]; exact hq) (fun j hj => HN.out j hj (by omega))]; rfl
      | false =>
        rw [hq] at hcall
        go_wp2_with (go_at_fn g; refine hcall.mono ?_; rintro e w' ⟨rfl, hb'⟩)
        go_roundg (xs.length - (kk + 1))
        case measure => omega
        case rel =>
          exact ⟨kk + 1, by go_num, by omega, by omega, ⟨HB.out.trans (hb'.mono (below_size HB.out))⟩, ⟨fun j hj hj2 => by
            by_cases e : j = kk
            · subst e; rw [HY.out]; exact hq
            · exact HN.out j (by omega) hj2⟩⟩
    · have hltz : ¬ (kk : Int) < (xs.length : Int) := by omega
      have : kk = xs.length := by omega
      go_wp2
      go_ret
      refine ⟨?_, HB.out⟩
      rw [idxOf_miss (fun j hj => HN.out j (by omega) hj)]; rfl

/-! the function value is pool.Of's, over the pCPU's number -/
def hasB (s c : Int) : Bool := (cpuset_Has.f s c).getD false
theorem hasB_f (s c : Int) : cpuset_Has.f s c = some (hasB s c) := by
  unfold hasB
  have : ∃ b, cpuset_Has.f s c = some b := by
    unfold cpuset_Has.f cpuset_bit.f
    (repeat' split) <;> first | exact ⟨_, rfl⟩ | omega
  obtain ⟨b, hb⟩ := this
  rw [hb]; rfl
set_option maxHeartbeats 2000000 in
theorem pool_Of1.calls (g : Nat) (s a1 : Int) (w : World) (hb : w.heap[g]? = some (.cells #[.int .i64 a1] 3 (0, 0))) :
    Calls Try.prog 41 (#[.int .u32 s] ++ #[.pointer (some ⟨g, 0, none⟩)]) w fun e w' => e = .returned (.bool (hasB s a1)) ∧ Below w.heap.size w w' := by
  have hc := (blk_cell hb 0).trans rfl
  have hf := blk_frozen hb 0
  clear hb
  have hH := Aside0.mk (hasB_f s a1)
  go_enter Try.func41, Try.ntmps41
  go_wp2_with (go_at_call 42; refine (cpuset_Has.calls s a1 _ _ hH.out).mono ?_; rintro e w' ⟨rfl, hb⟩)
  go_ret
  exact ⟨rfl, hb.below⟩
def slices_IndexFunc_cpus_Of1.f (l0 : List Int) (a : Int) : Option Int := if l0.length ≤ 35184372088832 then some (idxOf (fun s => hasB s a) l0) else none
theorem slices_IndexFunc_cpus_Of1.calls (A0 : Option Addr) (c0 : Nat) (l0 : List Int) (g : Nat) (a : Int) (r : Int) (w : World) (hr0 : Kd.C (Kd.int .u32) w A0 l0.length l0) (hc0 : l0.length ≤ c0) (hb : w.heap[g]? = some (.cells #[.int .i64 a] 3 (0, 0))) (h : slices_IndexFunc_cpus_Of1.f l0 a = some r) :
    Calls Try.prog 40 #[.slice A0 l0.length c0, .func (.func 41) #[] #[.pointer (some ⟨g, 0, none⟩)]] w fun e w' => e = .returned (.int .i64 r) ∧ Below w.heap.size w w' := by
  unfold slices_IndexFunc_cpus_Of1.f at h
  split at h
  case isFalse => cases h
  case isTrue hl =>
  obtain rfl := Option.some.inj h
  exact slices_IndexFunc_cpus.any 41 _ (enters_ Try.func41 (by kernel_rfl) rfl) _ A0 c0 l0 w hr0 hl (fun W hW x _ => pool_Of1.calls g x a W ((hW.block _ (blk_lt hb)).trans hb))

end Go.Proofs.Ytkhbffjfclepfaa.Q

/- Function 20, mainsheet_pool_Of: contracts over the given program's functions, one a function; no condition beyond those that each theorem states. Written by this session's program over the kit's printer, and by hand. -/
namespace Go.Proofs.Ytkhbffjfclepfaa.Q
open Go.RowKit Go.Proofs.YtkhbffjfclepfaaW.PrintWords Go.Proofs.YtkhbffjfclepfaaW.PrintLast Go.Proofs.YtkhbffjfclepfaaW.PrintMore
attribute [local go_sem] max2_int min2_int max_two min_two max_three min_three max_four min_four
set_option linter.unusedVariables false
set_option linter.unusedSimpArgs false

/-! ### pool_Of: function 20 -/
def pool_Of.f (k : Nat) (l0_0 : List Int) (a1 : Int) : Option (Int × Bool) := (slices_IndexFunc_cpus_Of1.f l0_0 a1).bind fun t305 => ((pool_Check.f k l0_0).bind fun t306 => (if t306 = 0 then (if t305 < 0 then (some (0, false)) else (some (t305, true))) else (some (0, false))))
theorem pool_Of.mono : ∀ a0 a1 k, LeO (pool_Of.f k a0 a1) (pool_Of.f (k + 1) a0 a1) := by
  intro a0 a1 k
  unfold pool_Of.f
  repeat' first
      | (with_reducible exact pool_Check.mono _ _)
      | (with_reducible exact LeO.refl _)
      | (with_reducible exact LeO.none _)
      | (with_reducible refine LeO.ite ?_ ?_)
      | (with_reducible refine LeO.bind ?_ (fun _ => ?_))
      | exact pool_Check.mono _ _
      | exact LeO.none _
      | refine LeO.ite ?_ ?_
      | refine LeO.bind ?_ (fun _ => ?_)
set_option maxHeartbeats 8000000 in
set_option maxRecDepth 100000 in
theorem pool_Of.calls (k : Nat) (A0_0 : Option Addr) (c0_0 : Nat) (l0_0 : List Int) (a1 : Int) (r1 : Int) (r2 : Bool) (w : World) (hr0_0 : Kd.C (Kd.int .u32) w A0_0 l0_0.length l0_0) (hc0_0 : l0_0.length ≤ c0_0) (h : pool_Of.f k l0_0 a1 = some (r1, r2)) :
    Calls Try.prog 20 #[.agg #[.slice A0_0 l0_0.length c0_0], .int .i64 a1] w fun e w' => e = .returned (.tuple #[.int .i64 r1, .bool r2]) ∧ Below w.heap.size w w' := by
  have hu26 := Try.underlying26
  have HR0_0 := Aside0.mk hr0_0
  have HC0_0 := Aside0.mk hc0_0
  clear hr0_0 hc0_0
  have HB := Aside0.mk (Below.refl w.heap.size w)
  have H : ((slices_IndexFunc_cpus_Of1.f l0_0 a1).bind fun t305 => ((pool_Check.f k l0_0).bind fun t306 => (if t306 = 0 then (if t305 < 0 then (some (0, false)) else (some (t305, true))) else (some (0, false))))) = some (r1, r2) := h
  clear h
  replace H := Option.bind_eq_some_iff.mp H
  obtain ⟨t305, A30, H⟩ := H
  replace H : ((pool_Check.f k l0_0).bind fun t306 => (if t306 = 0 then (if t305 < 0 then (some (0, false)) else (some (t305, true))) else (some (0, false)))) = some (r1, r2) := H
  have A3 := Aside0.mk A30
  clear A30
  replace H := Option.bind_eq_some_iff.mp H
  obtain ⟨t306, A40, H⟩ := H
  replace H : (if t306 = 0 then (if t305 < 0 then (some (0, false)) else (some (t305, true))) else (some (0, false))) = some (r1, r2) := H
  have A4 := Aside0.mk A40
  clear A40
  by_cases c5 : t306 = 0
  · rw [if_pos c5] at H
    have c5b0 : (t306 == 0) = true := beq_iff_eq.mpr c5
    have c5b1 : (t306 != 0) = false := bne_eq_false_iff_eq.mpr c5
    clear c5
    by_cases c6 : t305 < 0
    · rw [if_pos c6] at H
      have c6b0 : decide (t305 < 0) = true := decide_eq_true c6
      clear c6
      simp only [Option.some.injEq, Prod.mk.injEq] at H
      obtain ⟨rfl, rfl⟩ := H
      go_enter Try.func20, Try.ntmps20
      go_wp2_with (first | ((with_reducible refine gate_dst (N := 2) rfl ?_); refine box_event ?hg (N := 2) ?hd (cs := #[.slice A0_0 l0_0.length c0_0]) (t := 26) ?hr ?_; (case hd => rfl); (case hg => rfl); (case hr => first | (go_simp; done) | (go_simp; rfl)); intro gb303 hg w7 hbox hb; have n0_ := Aside0.mk (below_step (by repeat (first | (with_reducible first | exact HB.out | apply below_alloc | apply pw_below_drewN | apply below_drew1) | exact HB.out)) hb); have n1_ := Aside0.mk (hbox); have n2_ := Aside0.mk ((by rw [hg]; exact (below_size (by repeat (first | (with_reducible first | exact HB.out | apply below_alloc | apply pw_below_drewN | apply below_drew1) | exact HB.out))) : w.heap.size ≤ gb303)); have n3_ := Aside0.mk ((by rw [hg]; exact (below_size (by repeat (first | (with_reducible first | exact HB.out | apply below_alloc | apply pw_below_drewN | apply below_drew1) | exact HB.out))) : w.heap.size ≤ gb303)); clear HB; have HB := n0_; have BK303 := n1_; have GW303 := n2_; have GE303 := n3_; clear n0_ n1_ n2_ n3_; clear hb hbox hg) | ((with_reducible refine gate_dst (N := 3) rfl ?_); refine box_event ?hg (N := 3) ?hd (cs := #[.int .i64 a1]) (t := 3) ?hr ?_; (case hd => rfl); (case hg => rfl); (case hr => first | (go_simp; done) | (go_simp; rfl)); intro gb304 hg w8 hbox hb; have n0_ := Aside0.mk (blk_below (g := gb303) (o := .cells #[.slice A0_0 l0_0.length c0_0] 26 (0, 0)) (by (with_reducible repeat (first | refine blk_drewN ?_ _ | refine blk_drew ?_ | refine blk_alloc ?_ _)); exact BK303.out) hb); have n1_ := Aside0.mk (below_step (by repeat (first | (with_reducible first | exact HB.out | apply below_alloc | apply pw_below_drewN | apply below_drew1 | refine below_set ?_ GE303.out) | exact HB.out)) hb); have n2_ := Aside0.mk (hbox); have n3_ := Aside0.mk ((by rw [hg]; exact (below_size (by repeat (first | (with_reducible first | exact HB.out | apply below_alloc | apply pw_below_drewN | apply below_drew1 | refine below_set ?_ GE303.out) | exact HB.out))) : w.heap.size ≤ gb304)); have n4_ := Aside0.mk ((by rw [hg]; exact (below_size (by repeat (first | (with_reducible first | exact HB.out | apply below_alloc | apply pw_below_drewN | apply below_drew1 | refine below_set ?_ GE303.out) | exact HB.out))) : w.heap.size ≤ gb304)); have n5_ := Aside0.mk ((by rw [hg]; exact Nat.ne_of_lt (blk_lt (g := gb303) (o := .cells #[.slice A0_0 l0_0.length c0_0] 26 (0, 0)) (by (with_reducible repeat (first | refine blk_drewN ?_ _ | refine blk_drew ?_ | refine blk_alloc ?_ _)); exact BK303.out)) : gb303 ≠ gb304)); have n6_ := Aside0.mk ((by rw [hg]; exact Nat.ne_of_gt (blk_lt (g := gb303) (o := .cells #[.slice A0_0 l0_0.length c0_0] 26 (0, 0)) (by (with_reducible repeat (first | refine blk_drewN ?_ _ | refine blk_drew ?_ | refine blk_alloc ?_ _)); exact BK303.out)) : gb304 ≠ gb303)); clear BK303; clear HB; have BK303 := n0_; have HB := n1_; have BK304 := n2_; have GW304 := n3_; have GE304 := n4_; have NB303_304 := n5_; have NB304_303 := n6_; clear n0_ n1_ n2_ n3_ n4_ n5_ n6_; clear hb hbox hg; have hnb9 := NB303_304.out; have hnc9 := NB304_303.out; have hcz10_0 : w8.cell? ⟨gb303, 0, none⟩ = some (.slice A0_0 l0_0.length c0_0) := (blk_cell BK303.out 0).trans rfl; have hfz10_0 := blk_frozen BK303.out 0) | ((with_reducible refine gate_callee (f := 40) rfl ?_); refine goesL_ (some 10) rfl rfl Try.func40 (by kernel_rfl) rfl #[.slice A0_0 l0_0.length c0_0, .func (.func 41) #[] #[.pointer (some ⟨gb304, 0, none⟩)]] rfl (by (try simp only [List.map_toArray, List.map_cons, List.map_nil]); first | done | rfl | (simp only [List.length_drop, List.length_take]; rfl)) ?_; (with_reducible refine (slices_IndexFunc_cpus_Of1.calls _ _ l0_0 gb304 a1 t305 _ ?side1 ?side2 ?side3 A3.out).mono ?_); (case side1 => repeat (first | exact (Kd.C_below HR0_0.out HB.out) | (with_reducible refine Kd.C_alloc ?_ _) | (with_reducible refine Kd.C_drewN ?_ _) | (with_reducible refine Kd.C_drew ?_))); (case side2 => exact HC0_0.out); (case side3 => exact (by (with_reducible repeat (first | refine blk_drewN ?_ _ | refine blk_drew ?_ | refine blk_alloc ?_ _)); exact BK304.out)); rintro e w11 ⟨rfl, hb⟩; refine ⟨_, rfl, ?_⟩; have n0_ := Aside0.mk (blk_below (g := gb303) (o := .cells #[.slice A0_0 l0_0.length c0_0] 26 (0, 0)) (by (with_reducible repeat (first | refine blk_drewN ?_ _ | refine blk_drew ?_ | refine blk_alloc ?_ _)); exact BK303.out) hb); have n1_ := Aside0.mk (blk_below (g := gb304) (o := .cells #[.int .i64 a1] 3 (0, 0)) (by (with_reducible repeat (first | refine blk_drewN ?_ _ | refine blk_drew ?_ | refine blk_alloc ?_ _)); exact BK304.out) hb); have n2_ := Aside0.mk (below_step (by repeat (first | (with_reducible first | exact HB.out | apply below_alloc | apply pw_below_drewN | apply below_drew1 | refine below_set ?_ GE303.out | refine below_set ?_ GE304.out) | exact HB.out)) hb); clear BK303; clear BK304; clear HB; have BK303 := n0_; have BK304 := n1_; have HB := n2_; clear n0_ n1_ n2_; (try clear hb); (try clear hb2); (try clear hk); (try clear hi); have hcz12_0 : w11.cell? ⟨gb303, 0, none⟩ = some (.slice A0_0 l0_0.length c0_0) := (blk_cell BK303.out 0).trans rfl; have hfz12_0 := blk_frozen BK303.out 0) | ((with_reducible refine gate_callee (f := 17) rfl ?_); refine goesL_ (some 12) rfl rfl Try.func17 (by kernel_rfl) rfl #[.agg #[.slice A0_0 l0_0.length c0_0]] rfl (by (try simp only [List.map_toArray, List.map_cons, List.map_nil]); first | done | rfl | (simp only [List.length_drop, List.length_take]; rfl)) ?_; (with_reducible refine (pool_Check.calls k _ _ l0_0 t306 _ ?side1 ?side2 A4.out).mono ?_); (case side1 => repeat (first | exact (Kd.C_below HR0_0.out HB.out) | (with_reducible refine Kd.C_alloc ?_ _) | (with_reducible refine Kd.C_drewN ?_ _) | (with_reducible refine Kd.C_drew ?_))); (case side2 => exact HC0_0.out); rintro e w13 ⟨rfl, hb⟩; refine ⟨_, rfl, ?_⟩; have n0_ := Aside0.mk (blk_below (g := gb303) (o := .cells #[.slice A0_0 l0_0.length c0_0] 26 (0, 0)) (by (with_reducible repeat (first | refine blk_drewN ?_ _ | refine blk_drew ?_ | refine blk_alloc ?_ _)); exact BK303.out) hb); have n1_ := Aside0.mk (blk_below (g := gb304) (o := .cells #[.int .i64 a1] 3 (0, 0)) (by (with_reducible repeat (first | refine blk_drewN ?_ _ | refine blk_drew ?_ | refine blk_alloc ?_ _)); exact BK304.out) hb); have n2_ := Aside0.mk (below_step (by repeat (first | (with_reducible first | exact HB.out | apply below_alloc | apply pw_below_drewN | apply below_drew1 | refine below_set ?_ GE303.out | refine below_set ?_ GE304.out) | exact HB.out)) hb); clear BK303; clear BK304; clear HB; have BK303 := n0_; have BK304 := n1_; have HB := n2_; clear n0_ n1_ n2_; (try clear hb); (try clear hb2); (try clear hk); (try clear hi)))
      go_ret2
      exact ⟨by first | rfl | (simp [errW_none, errW_some] <;> rfl) | (simp [*, errW_none, errW_some] <;> rfl), by repeat (first | (with_reducible first | exact HB.out | apply below_alloc | apply pw_below_drewN | apply below_drew1 | refine below_set ?_ GE303.out | refine below_set ?_ GE304.out) | exact HB.out)⟩
    · rw [if_neg c6] at H
      have c6b0 : decide (t305 < 0) = false := decide_eq_false c6
      clear c6
      simp only [Option.some.injEq, Prod.mk.injEq] at H
      obtain ⟨rfl, rfl⟩ := H
      go_enter Try.func20, Try.ntmps20
      go_wp2_with (first | ((with_reducible refine gate_dst (N := 2) rfl ?_); refine box_event ?hg (N := 2) ?hd (cs := #[.slice A0_0 l0_0.length c0_0]) (t := 26) ?hr ?_; (case hd => rfl); (case hg => rfl); (case hr => first | (go_simp; done) | (go_simp; rfl)); intro gb303 hg w14 hbox hb; have n0_ := Aside0.mk (below_step (by repeat (first | (with_reducible first | exact HB.out | apply below_alloc | apply pw_below_drewN | apply below_drew1) | exact HB.out)) hb); have n1_ := Aside0.mk (hbox); have n2_ := Aside0.mk ((by rw [hg]; exact (below_size (by repeat (first | (with_reducible first | exact HB.out | apply below_alloc | apply pw_below_drewN | apply below_drew1) | exact HB.out))) : w.heap.size ≤ gb303)); have n3_ := Aside0.mk ((by rw [hg]; exact (below_size (by repeat (first | (with_reducible first | exact HB.out | apply below_alloc | apply pw_below_drewN | apply below_drew1) | exact HB.out))) : w.heap.size ≤ gb303)); clear HB; have HB := n0_; have BK303 := n1_; have GW303 := n2_; have GE303 := n3_; clear n0_ n1_ n2_ n3_; clear hb hbox hg) | ((with_reducible refine gate_dst (N := 3) rfl ?_); refine box_event ?hg (N := 3) ?hd (cs := #[.int .i64 a1]) (t := 3) ?hr ?_; (case hd => rfl); (case hg => rfl); (case hr => first | (go_simp; done) | (go_simp; rfl)); intro gb304 hg w15 hbox hb; have n0_ := Aside0.mk (blk_below (g := gb303) (o := .cells #[.slice A0_0 l0_0.length c0_0] 26 (0, 0)) (by (with_reducible repeat (first | refine blk_drewN ?_ _ | refine blk_drew ?_ | refine blk_alloc ?_ _)); exact BK303.out) hb); have n1_ := Aside0.mk (below_step (by repeat (first | (with_reducible first | exact HB.out | apply below_alloc | apply pw_below_drewN | apply below_drew1 | refine below_set ?_ GE303.out) | exact HB.out)) hb); have n2_ := Aside0.mk (hbox); have n3_ := Aside0.mk ((by rw [hg]; exact (below_size (by repeat (first | (with_reducible first | exact HB.out | apply below_alloc | apply pw_below_drewN | apply below_drew1 | refine below_set ?_ GE303.out) | exact HB.out))) : w.heap.size ≤ gb304)); have n4_ := Aside0.mk ((by rw [hg]; exact (below_size (by repeat (first | (with_reducible first | exact HB.out | apply below_alloc | apply pw_below_drewN | apply below_drew1 | refine below_set ?_ GE303.out) | exact HB.out))) : w.heap.size ≤ gb304)); have n5_ := Aside0.mk ((by rw [hg]; exact Nat.ne_of_lt (blk_lt (g := gb303) (o := .cells #[.slice A0_0 l0_0.length c0_0] 26 (0, 0)) (by (with_reducible repeat (first | refine blk_drewN ?_ _ | refine blk_drew ?_ | refine blk_alloc ?_ _)); exact BK303.out)) : gb303 ≠ gb304)); have n6_ := Aside0.mk ((by rw [hg]; exact Nat.ne_of_gt (blk_lt (g := gb303) (o := .cells #[.slice A0_0 l0_0.length c0_0] 26 (0, 0)) (by (with_reducible repeat (first | refine blk_drewN ?_ _ | refine blk_drew ?_ | refine blk_alloc ?_ _)); exact BK303.out)) : gb304 ≠ gb303)); clear BK303; clear HB; have BK303 := n0_; have HB := n1_; have BK304 := n2_; have GW304 := n3_; have GE304 := n4_; have NB303_304 := n5_; have NB304_303 := n6_; clear n0_ n1_ n2_ n3_ n4_ n5_ n6_; clear hb hbox hg; have hnb16 := NB303_304.out; have hnc16 := NB304_303.out; have hcz17_0 : w15.cell? ⟨gb303, 0, none⟩ = some (.slice A0_0 l0_0.length c0_0) := (blk_cell BK303.out 0).trans rfl; have hfz17_0 := blk_frozen BK303.out 0) | ((with_reducible refine gate_callee (f := 40) rfl ?_); refine goesL_ (some 10) rfl rfl Try.func40 (by kernel_rfl) rfl #[.slice A0_0 l0_0.length c0_0, .func (.func 41) #[] #[.pointer (some ⟨gb304, 0, none⟩)]] rfl (by (try simp only [List.map_toArray, List.map_cons, List.map_nil]); first | done | rfl | (simp only [List.length_drop, List.length_take]; rfl)) ?_; (with_reducible refine (slices_IndexFunc_cpus_Of1.calls _ _ l0_0 gb304 a1 t305 _ ?side1 ?side2 ?side3 A3.out).mono ?_); (case side1 => repeat (first | exact (Kd.C_below HR0_0.out HB.out) | (with_reducible refine Kd.C_alloc ?_ _) | (with_reducible refine Kd.C_drewN ?_ _) | (with_reducible refine Kd.C_drew ?_))); (case side2 => exact HC0_0.out); (case side3 => exact (by (with_reducible repeat (first | refine blk_drewN ?_ _ | refine blk_drew ?_ | refine blk_alloc ?_ _)); exact BK304.out)); rintro e w18 ⟨rfl, hb⟩; refine ⟨_, rfl, ?_⟩; have n0_ := Aside0.mk (blk_below (g := gb303) (o := .cells #[.slice A0_0 l0_0.length c0_0] 26 (0, 0)) (by (with_reducible repeat (first | refine blk_drewN ?_ _ | refine blk_drew ?_ | refine blk_alloc ?_ _)); exact BK303.out) hb); have n1_ := Aside0.mk (blk_below (g := gb304) (o := .cells #[.int .i64 a1] 3 (0, 0)) (by (with_reducible repeat (first | refine blk_drewN ?_ _ | refine blk_drew ?_ | refine blk_alloc ?_ _)); exact BK304.out) hb); have n2_ := Aside0.mk (below_step (by repeat (first | (with_reducible first | exact HB.out | apply below_alloc | apply pw_below_drewN | apply below_drew1 | refine below_set ?_ GE303.out | refine below_set ?_ GE304.out) | exact HB.out)) hb); clear BK303; clear BK304; clear HB; have BK303 := n0_; have BK304 := n1_; have HB := n2_; clear n0_ n1_ n2_; (try clear hb); (try clear hb2); (try clear hk); (try clear hi); have hcz19_0 : w18.cell? ⟨gb303, 0, none⟩ = some (.slice A0_0 l0_0.length c0_0) := (blk_cell BK303.out 0).trans rfl; have hfz19_0 := blk_frozen BK303.out 0) | ((with_reducible refine gate_callee (f := 17) rfl ?_); refine goesL_ (some 12) rfl rfl Try.func17 (by kernel_rfl) rfl #[.agg #[.slice A0_0 l0_0.length c0_0]] rfl (by (try simp only [List.map_toArray, List.map_cons, List.map_nil]); first | done | rfl | (simp only [List.length_drop, List.length_take]; rfl)) ?_; (with_reducible refine (pool_Check.calls k _ _ l0_0 t306 _ ?side1 ?side2 A4.out).mono ?_); (case side1 => repeat (first | exact (Kd.C_below HR0_0.out HB.out) | (with_reducible refine Kd.C_alloc ?_ _) | (with_reducible refine Kd.C_drewN ?_ _) | (with_reducible refine Kd.C_drew ?_))); (case side2 => exact HC0_0.out); rintro e w20 ⟨rfl, hb⟩; refine ⟨_, rfl, ?_⟩; have n0_ := Aside0.mk (blk_below (g := gb303) (o := .cells #[.slice A0_0 l0_0.length c0_0] 26 (0, 0)) (by (with_reducible repeat (first | refine blk_drewN ?_ _ | refine blk_drew ?_ | refine blk_alloc ?_ _)); exact BK303.out) hb); have n1_ := Aside0.mk (blk_below (g := gb304) (o := .cells #[.int .i64 a1] 3 (0, 0)) (by (with_reducible repeat (first | refine blk_drewN ?_ _ | refine blk_drew ?_ | refine blk_alloc ?_ _)); exact BK304.out) hb); have n2_ := Aside0.mk (below_step (by repeat (first | (with_reducible first | exact HB.out | apply below_alloc | apply pw_below_drewN | apply below_drew1 | refine below_set ?_ GE303.out | refine below_set ?_ GE304.out) | exact HB.out)) hb); clear BK303; clear BK304; clear HB; have BK303 := n0_; have BK304 := n1_; have HB := n2_; clear n0_ n1_ n2_; (try clear hb); (try clear hb2); (try clear hk); (try clear hi)))
      go_ret2
      exact ⟨by first | rfl | (simp [errW_none, errW_some] <;> rfl) | (simp [*, errW_none, errW_some] <;> rfl), by repeat (first | (with_reducible first | exact HB.out | apply below_alloc | apply pw_below_drewN | apply below_drew1 | refine below_set ?_ GE303.out | refine below_set ?_ GE304.out) | exact HB.out)⟩
  · rw [if_neg c5] at H
    have c5b0 : (t306 == 0) = false := beq_eq_false_iff_ne.mpr c5
    have c5b1 : (t306 != 0) = true := bne_iff_ne.mpr c5
    simp only [Option.some.injEq, Prod.mk.injEq] at H
    obtain ⟨rfl, rfl⟩ := H
    go_enter Try.func20, Try.ntmps20
    go_wp2_with (first | ((with_reducible refine gate_dst (N := 2) rfl ?_); refine box_event ?hg (N := 2) ?hd (cs := #[.slice A0_0 l0_0.length c0_0]) (t := 26) ?hr ?_; (case hd => rfl); (case hg => rfl); (case hr => first | (go_simp; done) | (go_simp; rfl)); intro gb303 hg w21 hbox hb; have n0_ := Aside0.mk (below_step (by repeat (first | (with_reducible first | exact HB.out | apply below_alloc | apply pw_below_drewN | apply below_drew1) | exact HB.out)) hb); have n1_ := Aside0.mk (hbox); have n2_ := Aside0.mk ((by rw [hg]; exact (below_size (by repeat (first | (with_reducible first | exact HB.out | apply below_alloc | apply pw_below_drewN | apply below_drew1) | exact HB.out))) : w.heap.size ≤ gb303)); have n3_ := Aside0.mk ((by rw [hg]; exact (below_size (by repeat (first | (with_reducible first | exact HB.out | apply below_alloc | apply pw_below_drewN | apply below_drew1) | exact HB.out))) : w.heap.size ≤ gb303)); clear HB; have HB := n0_; have BK303 := n1_; have GW303 := n2_; have GE303 := n3_; clear n0_ n1_ n2_ n3_; clear hb hbox hg) | ((with_reducible refine gate_dst (N := 3) rfl ?_); refine box_event ?hg (N := 3) ?hd (cs := #[.int .i64 a1]) (t := 3) ?hr ?_; (case hd => rfl); (case hg => rfl); (case hr => first | (go_simp; done) | (go_simp; rfl)); intro gb304 hg w22 hbox hb; have n0_ := Aside0.mk (blk_below (g := gb303) (o := .cells #[.slice A0_0 l0_0.length c0_0] 26 (0, 0)) (by (with_reducible repeat (first | refine blk_drewN ?_ _ | refine blk_drew ?_ | refine blk_alloc ?_ _)); exact BK303.out) hb); have n1_ := Aside0.mk (below_step (by repeat (first | (with_reducible first | exact HB.out | apply below_alloc | apply pw_below_drewN | apply below_drew1 | refine below_set ?_ GE303.out) | exact HB.out)) hb); have n2_ := Aside0.mk (hbox); have n3_ := Aside0.mk ((by rw [hg]; exact (below_size (by repeat (first | (with_reducible first | exact HB.out | apply below_alloc | apply pw_below_drewN | apply below_drew1 | refine below_set ?_ GE303.out) | exact HB.out))) : w.heap.size ≤ gb304)); have n4_ := Aside0.mk ((by rw [hg]; exact (below_size (by repeat (first | (with_reducible first | exact HB.out | apply below_alloc | apply pw_below_drewN | apply below_drew1 | refine below_set ?_ GE303.out) | exact HB.out))) : w.heap.size ≤ gb304)); have n5_ := Aside0.mk ((by rw [hg]; exact Nat.ne_of_lt (blk_lt (g := gb303) (o := .cells #[.slice A0_0 l0_0.length c0_0] 26 (0, 0)) (by (with_reducible repeat (first | refine blk_drewN ?_ _ | refine blk_drew ?_ | refine blk_alloc ?_ _)); exact BK303.out)) : gb303 ≠ gb304)); have n6_ := Aside0.mk ((by rw [hg]; exact Nat.ne_of_gt (blk_lt (g := gb303) (o := .cells #[.slice A0_0 l0_0.length c0_0] 26 (0, 0)) (by (with_reducible repeat (first | refine blk_drewN ?_ _ | refine blk_drew ?_ | refine blk_alloc ?_ _)); exact BK303.out)) : gb304 ≠ gb303)); clear BK303; clear HB; have BK303 := n0_; have HB := n1_; have BK304 := n2_; have GW304 := n3_; have GE304 := n4_; have NB303_304 := n5_; have NB304_303 := n6_; clear n0_ n1_ n2_ n3_ n4_ n5_ n6_; clear hb hbox hg; have hnb23 := NB303_304.out; have hnc23 := NB304_303.out; have hcz24_0 : w22.cell? ⟨gb303, 0, none⟩ = some (.slice A0_0 l0_0.length c0_0) := (blk_cell BK303.out 0).trans rfl; have hfz24_0 := blk_frozen BK303.out 0) | ((with_reducible refine gate_callee (f := 40) rfl ?_); refine goesL_ (some 10) rfl rfl Try.func40 (by kernel_rfl) rfl #[.slice A0_0 l0_0.length c0_0, .func (.func 41) #[] #[.pointer (some ⟨gb304, 0, none⟩)]] rfl (by (try simp only [List.map_toArray, List.map_cons, List.map_nil]); first | done | rfl | (simp only [List.length_drop, List.length_take]; rfl)) ?_; (with_reducible refine (slices_IndexFunc_cpus_Of1.calls _ _ l0_0 gb304 a1 t305 _ ?side1 ?side2 ?side3 A3.out).mono ?_); (case side1 => repeat (first | exact (Kd.C_below HR0_0.out HB.out) | (with_reducible refine Kd.C_alloc ?_ _) | (with_reducible refine Kd.C_drewN ?_ _) | (with_reducible refine Kd.C_drew ?_))); (case side2 => exact HC0_0.out); (case side3 => exact (by (with_reducible repeat (first | refine blk_drewN ?_ _ | refine blk_drew ?_ | refine blk_alloc ?_ _)); exact BK304.out)); rintro e w25 ⟨rfl, hb⟩; refine ⟨_, rfl, ?_⟩; have n0_ := Aside0.mk (blk_below (g := gb303) (o := .cells #[.slice A0_0 l0_0.length c0_0] 26 (0, 0)) (by (with_reducible repeat (first | refine blk_drewN ?_ _ | refine blk_drew ?_ | refine blk_alloc ?_ _)); exact BK303.out) hb); have n1_ := Aside0.mk (blk_below (g := gb304) (o := .cells #[.int .i64 a1] 3 (0, 0)) (by (with_reducible repeat (first | refine blk_drewN ?_ _ | refine blk_drew ?_ | refine blk_alloc ?_ _)); exact BK304.out) hb); have n2_ := Aside0.mk (below_step (by repeat (first | (with_reducible first | exact HB.out | apply below_alloc | apply pw_below_drewN | apply below_drew1 | refine below_set ?_ GE303.out | refine below_set ?_ GE304.out) | exact HB.out)) hb); clear BK303; clear BK304; clear HB; have BK303 := n0_; have BK304 := n1_; have HB := n2_; clear n0_ n1_ n2_; (try clear hb); (try clear hb2); (try clear hk); (try clear hi); have hcz26_0 : w25.cell? ⟨gb303, 0, none⟩ = some (.slice A0_0 l0_0.length c0_0) := (blk_cell BK303.out 0).trans rfl; have hfz26_0 := blk_frozen BK303.out 0) | ((with_reducible refine gate_callee (f := 17) rfl ?_); refine goesL_ (some 12) rfl rfl Try.func17 (by kernel_rfl) rfl #[.agg #[.slice A0_0 l0_0.length c0_0]] rfl (by (try simp only [List.map_toArray, List.map_cons, List.map_nil]); first | done | rfl | (simp only [List.length_drop, List.length_take]; rfl)) ?_; (with_reducible refine (pool_Check.calls k _ _ l0_0 t306 _ ?side1 ?side2 A4.out).mono ?_); (case side1 => repeat (first | exact (Kd.C_below HR0_0.out HB.out) | (with_reducible refine Kd.C_alloc ?_ _) | (with_reducible refine Kd.C_drewN ?_ _) | (with_reducible refine Kd.C_drew ?_))); (case side2 => exact HC0_0.out); rintro e w27 ⟨rfl, hb⟩; refine ⟨_, rfl, ?_⟩; have n0_ := Aside0.mk (blk_below (g := gb303) (o := .cells #[.slice A0_0 l0_0.length c0_0] 26 (0, 0)) (by (with_reducible repeat (first | refine blk_drewN ?_ _ | refine blk_drew ?_ | refine blk_alloc ?_ _)); exact BK303.out) hb); have n1_ := Aside0.mk (blk_below (g := gb304) (o := .cells #[.int .i64 a1] 3 (0, 0)) (by (with_reducible repeat (first | refine blk_drewN ?_ _ | refine blk_drew ?_ | refine blk_alloc ?_ _)); exact BK304.out) hb); have n2_ := Aside0.mk (below_step (by repeat (first | (with_reducible first | exact HB.out | apply below_alloc | apply pw_below_drewN | apply below_drew1 | refine below_set ?_ GE303.out | refine below_set ?_ GE304.out) | exact HB.out)) hb); clear BK303; clear BK304; clear HB; have BK303 := n0_; have BK304 := n1_; have HB := n2_; clear n0_ n1_ n2_; (try clear hb); (try clear hb2); (try clear hk); (try clear hi)))
    go_ret2
    exact ⟨by first | rfl | (simp [errW_none, errW_some] <;> rfl) | (simp [*, errW_none, errW_some] <;> rfl), by repeat (first | (with_reducible first | exact HB.out | apply below_alloc | apply pw_below_drewN | apply below_drew1 | refine below_set ?_ GE303.out | refine below_set ?_ GE304.out) | exact HB.out)⟩

end Go.Proofs.Ytkhbffjfclepfaa.Q

/- Function 58, math_bits_OnesCount32: contracts over the given program's functions, one a function; no condition beyond those that each theorem states. Written by this session's program over the kit's printer, and by hand. -/
namespace Go.Proofs.Ytkhbffjfclepfaa.Q
open Go.RowKit Go.Proofs.YtkhbffjfclepfaaW.PrintWords Go.Proofs.YtkhbffjfclepfaaW.PrintLast Go.Proofs.YtkhbffjfclepfaaW.PrintMore
attribute [local go_sem] max2_int min2_int max_two min_two max_three min_three max_four min_four
set_option linter.unusedVariables false
set_option linter.unusedSimpArgs false

/-! ### bits_OnesCount32: function 58 -/
def bits_OnesCount32.f (a0 : Int) : Option (Int) := if 0 ≤ (a0 / 16777216) then (if (a0 / 16777216) < 256 then (if 0 ≤ (Go.bits .and .u32 (a0 / 65536) 255) then (if (Go.bits .and .u32 (a0 / 65536) 255) < 256 then (if 0 ≤ (Go.bits .and .u32 (a0 / 256) 255) then (if (Go.bits .and .u32 (a0 / 256) 255) < 256 then (if 0 ≤ (Go.bits .and .u32 a0 255) then (if (Go.bits .and .u32 a0 255) < 256 then (some (((((((bt (⟨#[0, 1, 1, 2, 1, 2, 2, 3, 1, 2, 2, 3, 2, 3, 3, 4, 1, 2, 2, 3, 2, 3, 3, 4, 2, 3, 3, 4, 3, 4, 4, 5, 1, 2, 2, 3, 2, 3, 3, 4, 2, 3, 3, 4, 3, 4, 4, 5, 2, 3, 3, 4, 3, 4, 4, 5, 3, 4, 4, 5, 4, 5, 5, 6, 1, 2, 2, 3, 2, 3, 3, 4, 2, 3, 3, 4, 3, 4, 4, 5, 2, 3, 3, 4, 3, 4, 4, 5, 3, 4, 4, 5, 4, 5, 5, 6, 2, 3, 3, 4, 3, 4, 4, 5, 3, 4, 4, 5, 4, 5, 5, 6, 3, 4, 4, 5, 4, 5, 5, 6, 4, 5, 5, 6, 5, 6, 6, 7, 1, 2, 2, 3, 2, 3, 3, 4, 2, 3, 3, 4, 3, 4, 4, 5, 2, 3, 3, 4, 3, 4, 4, 5, 3, 4, 4, 5, 4, 5, 5, 6, 2, 3, 3, 4, 3, 4, 4, 5, 3, 4, 4, 5, 4, 5, 5, 6, 3, 4, 4, 5, 4, 5, 5, 6, 4, 5, 5, 6, 5, 6, 6, 7, 2, 3, 3, 4, 3, 4, 4, 5, 3, 4, 4, 5, 4, 5, 5, 6, 3, 4, 4, 5, 4, 5, 5, 6, 4, 5, 5, 6, 5, 6, 6, 7, 3, 4, 4, 5, 4, 5, 5, 6, 4, 5, 5, 6, 5, 6, 6, 7, 4, 5, 5, 6, 5, 6, 6, 7, 5, 6, 6, 7, 6, 7, 7, 8]⟩ : ByteArray) (a0 / 16777216)) + (bt (⟨#[0, 1, 1, 2, 1, 2, 2, 3, 1, 2, 2, 3, 2, 3, 3, 4, 1, 2, 2, 3, 2, 3, 3, 4, 2, 3, 3, 4, 3, 4, 4, 5, 1, 2, 2, 3, 2, 3, 3, 4, 2, 3, 3, 4, 3, 4, 4, 5, 2, 3, 3, 4, 3, 4, 4, 5, 3, 4, 4, 5, 4, 5, 5, 6, 1, 2, 2, 3, 2, 3, 3, 4, 2, 3, 3, 4, 3, 4, 4, 5, 2, 3, 3, 4, 3, 4, 4, 5, 3, 4, 4, 5, 4, 5, 5, 6, 2, 3, 3, 4, 3, 4, 4, 5, 3, 4, 4, 5, 4, 5, 5, 6, 3, 4, 4, 5, 4, 5, 5, 6, 4, 5, 5, 6, 5, 6, 6, 7, 1, 2, 2, 3, 2, 3, 3, 4, 2, 3, 3, 4, 3, 4, 4, 5, 2, 3, 3, 4, 3, 4, 4, 5, 3, 4, 4, 5, 4, 5, 5, 6, 2, 3, 3, 4, 3, 4, 4, 5, 3, 4, 4, 5, 4, 5, 5, 6, 3, 4, 4, 5, 4, 5, 5, 6, 4, 5, 5, 6, 5, 6, 6, 7, 2, 3, 3, 4, 3, 4, 4, 5, 3, 4, 4, 5, 4, 5, 5, 6, 3, 4, 4, 5, 4, 5, 5, 6, 4, 5, 5, 6, 5, 6, 6, 7, 3, 4, 4, 5, 4, 5, 5, 6, 4, 5, 5, 6, 5, 6, 6, 7, 4, 5, 5, 6, 5, 6, 6, 7, 5, 6, 6, 7, 6, 7, 7, 8]⟩ : ByteArray) (Go.bits .and .u32 (a0 / 65536) 255))) % 256) + (bt (⟨#[0, 1, 1, 2, 1, 2, 2, 3, 1, 2, 2, 3, 2, 3, 3, 4, 1, 2, 2, 3, 2, 3, 3, 4, 2, 3, 3, 4, 3, 4, 4, 5, 1, 2, 2, 3, 2, 3, 3, 4, 2, 3, 3, 4, 3, 4, 4, 5, 2, 3, 3, 4, 3, 4, 4, 5, 3, 4, 4, 5, 4, 5, 5, 6, 1, 2, 2, 3, 2, 3, 3, 4, 2, 3, 3, 4, 3, 4, 4, 5, 2, 3, 3, 4, 3, 4, 4, 5, 3, 4, 4, 5, 4, 5, 5, 6, 2, 3, 3, 4, 3, 4, 4, 5, 3, 4, 4, 5, 4, 5, 5, 6, 3, 4, 4, 5, 4, 5, 5, 6, 4, 5, 5, 6, 5, 6, 6, 7, 1, 2, 2, 3, 2, 3, 3, 4, 2, 3, 3, 4, 3, 4, 4, 5, 2, 3, 3, 4, 3, 4, 4, 5, 3, 4, 4, 5, 4, 5, 5, 6, 2, 3, 3, 4, 3, 4, 4, 5, 3, 4, 4, 5, 4, 5, 5, 6, 3, 4, 4, 5, 4, 5, 5, 6, 4, 5, 5, 6, 5, 6, 6, 7, 2, 3, 3, 4, 3, 4, 4, 5, 3, 4, 4, 5, 4, 5, 5, 6, 3, 4, 4, 5, 4, 5, 5, 6, 4, 5, 5, 6, 5, 6, 6, 7, 3, 4, 4, 5, 4, 5, 5, 6, 4, 5, 5, 6, 5, 6, 6, 7, 4, 5, 5, 6, 5, 6, 6, 7, 5, 6, 6, 7, 6, 7, 7, 8]⟩ : ByteArray) (Go.bits .and .u32 (a0 / 256) 255))) % 256) + (bt (⟨#[0, 1, 1, 2, 1, 2, 2, 3, 1, 2, 2, 3, 2, 3, 3, 4, 1, 2, 2, 3, 2, 3, 3, 4, 2, 3, 3, 4, 3, 4, 4, 5, 1, 2, 2, 3, 2, 3, 3, 4, 2, 3, 3, 4, 3, 4, 4, 5, 2, 3, 3, 4, 3, 4, 4, 5, 3, 4, 4, 5, 4, 5, 5, 6, 1, 2, 2, 3, 2, 3, 3, 4, 2, 3, 3, 4, 3, 4, 4, 5, 2, 3, 3, 4, 3, 4, 4, 5, 3, 4, 4, 5, 4, 5, 5, 6, 2, 3, 3, 4, 3, 4, 4, 5, 3, 4, 4, 5, 4, 5, 5, 6, 3, 4, 4, 5, 4, 5, 5, 6, 4, 5, 5, 6, 5, 6, 6, 7, 1, 2, 2, 3, 2, 3, 3, 4, 2, 3, 3, 4, 3, 4, 4, 5, 2, 3, 3, 4, 3, 4, 4, 5, 3, 4, 4, 5, 4, 5, 5, 6, 2, 3, 3, 4, 3, 4, 4, 5, 3, 4, 4, 5, 4, 5, 5, 6, 3, 4, 4, 5, 4, 5, 5, 6, 4, 5, 5, 6, 5, 6, 6, 7, 2, 3, 3, 4, 3, 4, 4, 5, 3, 4, 4, 5, 4, 5, 5, 6, 3, 4, 4, 5, 4, 5, 5, 6, 4, 5, 5, 6, 5, 6, 6, 7, 3, 4, 4, 5, 4, 5, 5, 6, 4, 5, 5, 6, 5, 6, 6, 7, 4, 5, 5, 6, 5, 6, 6, 7, 5, 6, 6, 7, 6, 7, 7, 8]⟩ : ByteArray) (Go.bits .and .u32 a0 255))) % 256)) else (none)) else (none)) else (none)) else (none)) else (none)) else (none)) else (none)) else (none)
set_option maxHeartbeats 8000000 in
set_option maxRecDepth 100000 in
theorem bits_OnesCount32.calls (a0 : Int) (r : Int) (w : World) (h : bits_OnesCount32.f a0 = some r) :
    Calls Try.prog 58 #[.int .u32 a0] w fun e w' => e = .returned (.int .i64 r) ∧ Drawn0 w w' := by
  have H : (if 0 ≤ (a0 / 16777216) then (if (a0 / 16777216) < 256 then (if 0 ≤ (Go.bits .and .u32 (a0 / 65536) 255) then (if (Go.bits .and .u32 (a0 / 65536) 255) < 256 then (if 0 ≤ (Go.bits .and .u32 (a0 / 256) 255) then (if (Go.bits .and .u32 (a0 / 256) 255) < 256 then (if 0 ≤ (Go.bits .and .u32 a0 255) then (if (Go.bits .and .u32 a0 255) < 256 then (some (((((((bt (⟨#[0, 1, 1, 2, 1, 2, 2, 3, 1, 2, 2, 3, 2, 3, 3, 4, 1, 2, 2, 3, 2, 3, 3, 4, 2, 3, 3, 4, 3, 4, 4, 5, 1, 2, 2, 3, 2, 3, 3, 4, 2, 3, 3, 4, 3, 4, 4, 5, 2, 3, 3, 4, 3, 4, 4, 5, 3, 4, 4, 5, 4, 5, 5, 6, 1, 2, 2, 3, 2, 3, 3, 4, 2, 3, 3, 4, 3, 4, 4, 5, 2, 3, 3, 4, 3, 4, 4, 5, 3, 4, 4, 5, 4, 5, 5, 6, 2, 3, 3, 4, 3, 4, 4, 5, 3, 4, 4, 5, 4, 5, 5, 6, 3, 4, 4, 5, 4, 5, 5, 6, 4, 5, 5, 6, 5, 6, 6, 7, 1, 2, 2, 3, 2, 3, 3, 4, 2, 3, 3, 4, 3, 4, 4, 5, 2, 3, 3, 4, 3, 4, 4, 5, 3, 4, 4, 5, 4, 5, 5, 6, 2, 3, 3, 4, 3, 4, 4, 5, 3, 4, 4, 5, 4, 5, 5, 6, 3, 4, 4, 5, 4, 5, 5, 6, 4, 5, 5, 6, 5, 6, 6, 7, 2, 3, 3, 4, 3, 4, 4, 5, 3, 4, 4, 5, 4, 5, 5, 6, 3, 4, 4, 5, 4, 5, 5, 6, 4, 5, 5, 6, 5, 6, 6, 7, 3, 4, 4, 5, 4, 5, 5, 6, 4, 5, 5, 6, 5, 6, 6, 7, 4, 5, 5, 6, 5, 6, 6, 7, 5, 6, 6, 7, 6, 7, 7, 8]⟩ : ByteArray) (a0 / 16777216)) + (bt (⟨#[0, 1, 1, 2, 1, 2, 2, 3, 1, 2, 2, 3, 2, 3, 3, 4, 1, 2, 2, 3, 2, 3, 3, 4, 2, 3, 3, 4, 3, 4, 4, 5, 1, 2, 2, 3, 2, 3, 3, 4, 2, 3, 3, 4, 3, 4, 4, 5, 2, 3, 3, 4, 3, 4, 4, 5, 3, 4, 4, 5, 4, 5, 5, 6, 1, 2, 2, 3, 2, 3, 3, 4, 2, 3, 3, 4, 3, 4, 4, 5, 2, 3, 3, 4, 3, 4, 4, 5, 3, 4, 4, 5, 4, 5, 5, 6, 2, 3, 3, 4, 3, 4, 4, 5, 3, 4, 4, 5, 4, 5, 5, 6, 3, 4, 4, 5, 4, 5, 5, 6, 4, 5, 5, 6, 5, 6, 6, 7, 1, 2, 2, 3, 2, 3, 3, 4, 2, 3, 3, 4, 3, 4, 4, 5, 2, 3, 3, 4, 3, 4, 4, 5, 3, 4, 4, 5, 4, 5, 5, 6, 2, 3, 3, 4, 3, 4, 4, 5, 3, 4, 4, 5, 4, 5, 5, 6, 3, 4, 4, 5, 4, 5, 5, 6, 4, 5, 5, 6, 5, 6, 6, 7, 2, 3, 3, 4, 3, 4, 4, 5, 3, 4, 4, 5, 4, 5, 5, 6, 3, 4, 4, 5, 4, 5, 5, 6, 4, 5, 5, 6, 5, 6, 6, 7, 3, 4, 4, 5, 4, 5, 5, 6, 4, 5, 5, 6, 5, 6, 6, 7, 4, 5, 5, 6, 5, 6, 6, 7, 5, 6, 6, 7, 6, 7, 7, 8]⟩ : ByteArray) (Go.bits .and .u32 (a0 / 65536) 255))) % 256) + (bt (⟨#[0, 1, 1, 2, 1, 2, 2, 3, 1, 2, 2, 3, 2, 3, 3, 4, 1, 2, 2, 3, 2, 3, 3, 4, 2, 3, 3, 4, 3, 4, 4, 5, 1, 2, 2, 3, 2, 3, 3, 4, 2, 3, 3, 4, 3, 4, 4, 5, 2, 3, 3, 4, 3, 4, 4, 5, 3, 4, 4, 5, 4, 5, 5, 6, 1, 2, 2, 3, 2, 3, 3, 4, 2, 3, 3, 4, 3, 4, 4, 5, 2, 3, 3, 4, 3, 4, 4, 5, 3, 4, 4, 5, 4, 5, 5, 6, 2, 3, 3, 4, 3, 4, 4, 5, 3, 4, 4, 5, 4, 5, 5, 6, 3, 4, 4, 5, 4, 5, 5, 6, 4, 5, 5, 6, 5, 6, 6, 7, 1, 2, 2, 3, 2, 3, 3, 4, 2, 3, 3, 4, 3, 4, 4, 5, 2, 3, 3, 4, 3, 4, 4, 5, 3, 4, 4, 5, 4, 5, 5, 6, 2, 3, 3, 4, 3, 4, 4, 5, 3, 4, 4, 5, 4, 5, 5, 6, 3, 4, 4, 5, 4, 5, 5, 6, 4, 5, 5, 6, 5, 6, 6, 7, 2, 3, 3, 4, 3, 4, 4, 5, 3, 4, 4, 5, 4, 5, 5, 6, 3, 4, 4, 5, 4, 5, 5, 6, 4, 5, 5, 6, 5, 6, 6, 7, 3, 4, 4, 5, 4, 5, 5, 6, 4, 5, 5, 6, 5, 6, 6, 7, 4, 5, 5, 6, 5, 6, 6, 7, 5, 6, 6, 7, 6, 7, 7, 8]⟩ : ByteArray) (Go.bits .and .u32 (a0 / 256) 255))) % 256) + (bt (⟨#[0, 1, 1, 2, 1, 2, 2, 3, 1, 2, 2, 3, 2, 3, 3, 4, 1, 2, 2, 3, 2, 3, 3, 4, 2, 3, 3, 4, 3, 4, 4, 5, 1, 2, 2, 3, 2, 3, 3, 4, 2, 3, 3, 4, 3, 4, 4, 5, 2, 3, 3, 4, 3, 4, 4, 5, 3, 4, 4, 5, 4, 5, 5, 6, 1, 2, 2, 3, 2, 3, 3, 4, 2, 3, 3, 4, 3, 4, 4, 5, 2, 3, 3, 4, 3, 4, 4, 5, 3, 4, 4, 5, 4, 5, 5, 6, 2, 3, 3, 4, 3, 4, 4, 5, 3, 4, 4, 5, 4, 5, 5, 6, 3, 4, 4, 5, 4, 5, 5, 6, 4, 5, 5, 6, 5, 6, 6, 7, 1, 2, 2, 3, 2, 3, 3, 4, 2, 3, 3, 4, 3, 4, 4, 5, 2, 3, 3, 4, 3, 4, 4, 5, 3, 4, 4, 5, 4, 5, 5, 6, 2, 3, 3, 4, 3, 4, 4, 5, 3, 4, 4, 5, 4, 5, 5, 6, 3, 4, 4, 5, 4, 5, 5, 6, 4, 5, 5, 6, 5, 6, 6, 7, 2, 3, 3, 4, 3, 4, 4, 5, 3, 4, 4, 5, 4, 5, 5, 6, 3, 4, 4, 5, 4, 5, 5, 6, 4, 5, 5, 6, 5, 6, 6, 7, 3, 4, 4, 5, 4, 5, 5, 6, 4, 5, 5, 6, 5, 6, 6, 7, 4, 5, 5, 6, 5, 6, 6, 7, 5, 6, 6, 7, 6, 7, 7, 8]⟩ : ByteArray) (Go.bits .and .u32 a0 255))) % 256)) else (none)) else (none)) else (none)) else (none)) else (none)) else (none)) else (none)) else (none)) = some r := h
  clear h
  obtain ⟨ji2, hji2⟩ : ∃ j_ : Int, (a0 / 16777216) = j_ := ⟨_, rfl⟩
  replace H : (if 0 ≤ (ji2) then (if (ji2) < 256 then (if 0 ≤ (Go.bits .and .u32 (a0 / 65536) 255) then (if (Go.bits .and .u32 (a0 / 65536) 255) < 256 then (if 0 ≤ (Go.bits .and .u32 (a0 / 256) 255) then (if (Go.bits .and .u32 (a0 / 256) 255) < 256 then (if 0 ≤ (Go.bits .and .u32 a0 255) then (if (Go.bits .and .u32 a0 255) < 256 then (some (((((((bt (⟨#[0, 1, 1, 2, 1, 2, 2, 3, 1, 2, 2, 3, 2, 3, 3, 4, 1, 2, 2, 3, 2, 3, 3, 4, 2, 3, 3, 4, 3, 4, 4, 5, 1, 2, 2, 3, 2, 3, 3, 4, 2, 3, 3, 4, 3, 4, 4, 5, 2, 3, 3, 4, 3, 4, 4, 5, 3, 4, 4, 5, 4, 5, 5, 6, 1, 2, 2, 3, 2, 3, 3, 4, 2, 3, 3, 4, 3, 4, 4, 5, 2, 3, 3, 4, 3, 4, 4, 5, 3, 4, 4, 5, 4, 5, 5, 6, 2, 3, 3, 4, 3, 4, 4, 5, 3, 4, 4, 5, 4, 5, 5, 6, 3, 4, 4, 5, 4, 5, 5, 6, 4, 5, 5, 6, 5, 6, 6, 7, 1, 2, 2, 3, 2, 3, 3, 4, 2, 3, 3, 4, 3, 4, 4, 5, 2, 3, 3, 4, 3, 4, 4, 5, 3, 4, 4, 5, 4, 5, 5, 6, 2, 3, 3, 4, 3, 4, 4, 5, 3, 4, 4, 5, 4, 5, 5, 6, 3, 4, 4, 5, 4, 5, 5, 6, 4, 5, 5, 6, 5, 6, 6, 7, 2, 3, 3, 4, 3, 4, 4, 5, 3, 4, 4, 5, 4, 5, 5, 6, 3, 4, 4, 5, 4, 5, 5, 6, 4, 5, 5, 6, 5, 6, 6, 7, 3, 4, 4, 5, 4, 5, 5, 6, 4, 5, 5, 6, 5, 6, 6, 7, 4, 5, 5, 6, 5, 6, 6, 7, 5, 6, 6, 7, 6, 7, 7, 8]⟩ : ByteArray) (ji2)) + (bt (⟨#[0, 1, 1, 2, 1, 2, 2, 3, 1, 2, 2, 3, 2, 3, 3, 4, 1, 2, 2, 3, 2, 3, 3, 4, 2, 3, 3, 4, 3, 4, 4, 5, 1, 2, 2, 3, 2, 3, 3, 4, 2, 3, 3, 4, 3, 4, 4, 5, 2, 3, 3, 4, 3, 4, 4, 5, 3, 4, 4, 5, 4, 5, 5, 6, 1, 2, 2, 3, 2, 3, 3, 4, 2, 3, 3, 4, 3, 4, 4, 5, 2, 3, 3, 4, 3, 4, 4, 5, 3, 4, 4, 5, 4, 5, 5, 6, 2, 3, 3, 4, 3, 4, 4, 5, 3, 4, 4, 5, 4, 5, 5, 6, 3, 4, 4, 5, 4, 5, 5, 6, 4, 5, 5, 6, 5, 6, 6, 7, 1, 2, 2, 3, 2, 3, 3, 4, 2, 3, 3, 4, 3, 4, 4, 5, 2, 3, 3, 4, 3, 4, 4, 5, 3, 4, 4, 5, 4, 5, 5, 6, 2, 3, 3, 4, 3, 4, 4, 5, 3, 4, 4, 5, 4, 5, 5, 6, 3, 4, 4, 5, 4, 5, 5, 6, 4, 5, 5, 6, 5, 6, 6, 7, 2, 3, 3, 4, 3, 4, 4, 5, 3, 4, 4, 5, 4, 5, 5, 6, 3, 4, 4, 5, 4, 5, 5, 6, 4, 5, 5, 6, 5, 6, 6, 7, 3, 4, 4, 5, 4, 5, 5, 6, 4, 5, 5, 6, 5, 6, 6, 7, 4, 5, 5, 6, 5, 6, 6, 7, 5, 6, 6, 7, 6, 7, 7, 8]⟩ : ByteArray) (Go.bits .and .u32 (a0 / 65536) 255))) % 256) + (bt (⟨#[0, 1, 1, 2, 1, 2, 2, 3, 1, 2, 2, 3, 2, 3, 3, 4, 1, 2, 2, 3, 2, 3, 3, 4, 2, 3, 3, 4, 3, 4, 4, 5, 1, 2, 2, 3, 2, 3, 3, 4, 2, 3, 3, 4, 3, 4, 4, 5, 2, 3, 3, 4, 3, 4, 4, 5, 3, 4, 4, 5, 4, 5, 5, 6, 1, 2, 2, 3, 2, 3, 3, 4, 2, 3, 3, 4, 3, 4, 4, 5, 2, 3, 3, 4, 3, 4, 4, 5, 3, 4, 4, 5, 4, 5, 5, 6, 2, 3, 3, 4, 3, 4, 4, 5, 3, 4, 4, 5, 4, 5, 5, 6, 3, 4, 4, 5, 4, 5, 5, 6, 4, 5, 5, 6, 5, 6, 6, 7, 1, 2, 2, 3, 2, 3, 3, 4, 2, 3, 3, 4, 3, 4, 4, 5, 2, 3, 3, 4, 3, 4, 4, 5, 3, 4, 4, 5, 4, 5, 5, 6, 2, 3, 3, 4, 3, 4, 4, 5, 3, 4, 4, 5, 4, 5, 5, 6, 3, 4, 4, 5, 4, 5, 5, 6, 4, 5, 5, 6, 5, 6, 6, 7, 2, 3, 3, 4, 3, 4, 4, 5, 3, 4, 4, 5, 4, 5, 5, 6, 3, 4, 4, 5, 4, 5, 5, 6, 4, 5, 5, 6, 5, 6, 6, 7, 3, 4, 4, 5, 4, 5, 5, 6, 4, 5, 5, 6, 5, 6, 6, 7, 4, 5, 5, 6, 5, 6, 6, 7, 5, 6, 6, 7, 6, 7, 7, 8]⟩ : ByteArray) (Go.bits .and .u32 (a0 / 256) 255))) % 256) + (bt (⟨#[0, 1, 1, 2, 1, 2, 2, 3, 1, 2, 2, 3, 2, 3, 3, 4, 1, 2, 2, 3, 2, 3, 3, 4, 2, 3, 3, 4, 3, 4, 4, 5, 1, 2, 2, 3, 2, 3, 3, 4, 2, 3, 3, 4, 3, 4, 4, 5, 2, 3, 3, 4, 3, 4, 4, 5, 3, 4, 4, 5, 4, 5, 5, 6, 1, 2, 2, 3, 2, 3, 3, 4, 2, 3, 3, 4, 3, 4, 4, 5, 2, 3, 3, 4, 3, 4, 4, 5, 3, 4, 4, 5, 4, 5, 5, 6, 2, 3, 3, 4, 3, 4, 4, 5, 3, 4, 4, 5, 4, 5, 5, 6, 3, 4, 4, 5, 4, 5, 5, 6, 4, 5, 5, 6, 5, 6, 6, 7, 1, 2, 2, 3, 2, 3, 3, 4, 2, 3, 3, 4, 3, 4, 4, 5, 2, 3, 3, 4, 3, 4, 4, 5, 3, 4, 4, 5, 4, 5, 5, 6, 2, 3, 3, 4, 3, 4, 4, 5, 3, 4, 4, 5, 4, 5, 5, 6, 3, 4, 4, 5, 4, 5, 5, 6, 4, 5, 5, 6, 5, 6, 6, 7, 2, 3, 3, 4, 3, 4, 4, 5, 3, 4, 4, 5, 4, 5, 5, 6, 3, 4, 4, 5, 4, 5, 5, 6, 4, 5, 5, 6, 5, 6, 6, 7, 3, 4, 4, 5, 4, 5, 5, 6, 4, 5, 5, 6, 5, 6, 6, 7, 4, 5, 5, 6, 5, 6, 6, 7, 5, 6, 6, 7, 6, 7, 7, 8]⟩ : ByteArray) (Go.bits .and .u32 a0 255))) % 256)) else (none)) else (none)) else (none)) else (none)) else (none)) else (none)) else (none)) else (none)) = some r := by first | (rw [hji2] at H; exact H) | (simp only [hji2] at H ⊢; exact H)
  by_cases c3 : 0 ≤ (ji2)
  · rw [if_pos c3] at H
    have c3b0 : decide (0 ≤ (ji2)) = true := decide_eq_true c3
    clear c3
    by_cases c4 : (ji2) < 256
    · rw [if_pos c4] at H
      have c4b0 : decide ((ji2) < 256) = true := decide_eq_true c4
      clear c4
      obtain ⟨ji6, hji6⟩ : ∃ j_ : Int, (Go.bits .and .u32 (a0 / 65536) 255) = j_ := ⟨_, rfl⟩
      replace H : (if 0 ≤ (ji6) then (if (ji6) < 256 then (if 0 ≤ (Go.bits .and .u32 (a0 / 256) 255) then (if (Go.bits .and .u32 (a0 / 256) 255) < 256 then (if 0 ≤ (Go.bits .and .u32 a0 255) then (if (Go.bits .and .u32 a0 255) < 256 then (some (((((((bt (⟨#[0, 1, 1, 2, 1, 2, 2, 3, 1, 2, 2, 3, 2, 3, 3, 4, 1, 2, 2, 3, 2, 3, 3, 4, 2, 3, 3, 4, 3, 4, 4, 5, 1, 2, 2, 3, 2, 3, 3, 4, 2, 3, 3, 4, 3, 4, 4, 5, 2, 3, 3, 4, 3, 4, 4, 5, 3, 4, 4, 5, 4, 5, 5, 6, 1, 2, 2, 3, 2, 3, 3, 4, 2, 3, 3, 4, 3, 4, 4, 5, 2, 3, 3, 4, 3, 4, 4, 5, 3, 4, 4, 5, 4, 5, 5, 6, 2, 3, 3, 4, 3, 4, 4, 5, 3, 4, 4, 5, 4, 5, 5, 6, 3, 4, 4, 5, 4, 5, 5, 6, 4, 5, 5, 6, 5, 6, 6, 7, 1, 2, 2, 3, 2, 3, 3, 4, 2, 3, 3, 4, 3, 4, 4, 5, 2, 3, 3, 4, 3, 4, 4, 5, 3, 4, 4, 5, 4, 5, 5, 6, 2, 3, 3, 4, 3, 4, 4, 5, 3, 4, 4, 5, 4, 5, 5, 6, 3, 4, 4, 5, 4, 5, 5, 6, 4, 5, 5, 6, 5, 6, 6, 7, 2, 3, 3, 4, 3, 4, 4, 5, 3, 4, 4, 5, 4, 5, 5, 6, 3, 4, 4, 5, 4, 5, 5, 6, 4, 5, 5, 6, 5, 6, 6, 7, 3, 4, 4, 5, 4, 5, 5, 6, 4, 5, 5, 6, 5, 6, 6, 7, 4, 5, 5, 6, 5, 6, 6, 7, 5, 6, 6, 7, 6, 7, 7, 8]⟩ : ByteArray) (ji2)) + (bt (⟨#[0, 1, 1, 2, 1, 2, 2, 3, 1, 2, 2, 3, 2, 3, 3, 4, 1, 2, 2, 3, 2, 3, 3, 4, 2, 3, 3, 4, 3, 4, 4, 5, 1, 2, 2, 3, 2, 3, 3, 4, 2, 3, 3, 4, 3, 4, 4, 5, 2, 3, 3, 4, 3, 4, 4, 5, 3, 4, 4, 5, 4, 5, 5, 6, 1, 2, 2, 3, 2, 3, 3, 4, 2, 3, 3, 4, 3, 4, 4, 5, 2, 3, 3, 4, 3, 4, 4, 5, 3, 4, 4, 5, 4, 5, 5, 6, 2, 3, 3, 4, 3, 4, 4, 5, 3, 4, 4, 5, 4, 5, 5, 6, 3, 4, 4, 5, 4, 5, 5, 6, 4, 5, 5, 6, 5, 6, 6, 7, 1, 2, 2, 3, 2, 3, 3, 4, 2, 3, 3, 4, 3, 4, 4, 5, 2, 3, 3, 4, 3, 4, 4, 5, 3, 4, 4, 5, 4, 5, 5, 6, 2, 3, 3, 4, 3, 4, 4, 5, 3, 4, 4, 5, 4, 5, 5, 6, 3, 4, 4, 5, 4, 5, 5, 6, 4, 5, 5, 6, 5, 6, 6, 7, 2, 3, 3, 4, 3, 4, 4, 5, 3, 4, 4, 5, 4, 5, 5, 6, 3, 4, 4, 5, 4, 5, 5, 6, 4, 5, 5, 6, 5, 6, 6, 7, 3, 4, 4, 5, 4, 5, 5, 6, 4, 5, 5, 6, 5, 6, 6, 7, 4, 5, 5, 6, 5, 6, 6, 7, 5, 6, 6, 7, 6, 7, 7, 8]⟩ : ByteArray) (ji6))) % 256) + (bt (⟨#[0, 1, 1, 2, 1, 2, 2, 3, 1, 2, 2, 3, 2, 3, 3, 4, 1, 2, 2, 3, 2, 3, 3, 4, 2, 3, 3, 4, 3, 4, 4, 5, 1, 2, 2, 3, 2, 3, 3, 4, 2, 3, 3, 4, 3, 4, 4, 5, 2, 3, 3, 4, 3, 4, 4, 5, 3, 4, 4, 5, 4, 5, 5, 6, 1, 2, 2, 3, 2, 3, 3, 4, 2, 3, 3, 4, 3, 4, 4, 5, 2, 3, 3, 4, 3, 4, 4, 5, 3, 4, 4, 5, 4, 5, 5, 6, 2, 3, 3, 4, 3, 4, 4, 5, 3, 4, 4, 5, 4, 5, 5, 6, 3, 4, 4, 5, 4, 5, 5, 6, 4, 5, 5, 6, 5, 6, 6, 7, 1, 2, 2, 3, 2, 3, 3, 4, 2, 3, 3, 4, 3, 4, 4, 5, 2, 3, 3, 4, 3, 4, 4, 5, 3, 4, 4, 5, 4, 5, 5, 6, 2, 3, 3, 4, 3, 4, 4, 5, 3, 4, 4, 5, 4, 5, 5, 6, 3, 4, 4, 5, 4, 5, 5, 6, 4, 5, 5, 6, 5, 6, 6, 7, 2, 3, 3, 4, 3, 4, 4, 5, 3, 4, 4, 5, 4, 5, 5, 6, 3, 4, 4, 5, 4, 5, 5, 6, 4, 5, 5, 6, 5, 6, 6, 7, 3, 4, 4, 5, 4, 5, 5, 6, 4, 5, 5, 6, 5, 6, 6, 7, 4, 5, 5, 6, 5, 6, 6, 7, 5, 6, 6, 7, 6, 7, 7, 8]⟩ : ByteArray) (Go.bits .and .u32 (a0 / 256) 255))) % 256) + (bt (⟨#[0, 1, 1, 2, 1, 2, 2, 3, 1, 2, 2, 3, 2, 3, 3, 4, 1, 2, 2, 3, 2, 3, 3, 4, 2, 3, 3, 4, 3, 4, 4, 5, 1, 2, 2, 3, 2, 3, 3, 4, 2, 3, 3, 4, 3, 4, 4, 5, 2, 3, 3, 4, 3, 4, 4, 5, 3, 4, 4, 5, 4, 5, 5, 6, 1, 2, 2, 3, 2, 3, 3, 4, 2, 3, 3, 4, 3, 4, 4, 5, 2, 3, 3, 4, 3, 4, 4, 5, 3, 4, 4, 5, 4, 5, 5, 6, 2, 3, 3, 4, 3, 4, 4, 5, 3, 4, 4, 5, 4, 5, 5, 6, 3, 4, 4, 5, 4, 5, 5, 6, 4, 5, 5, 6, 5, 6, 6, 7, 1, 2, 2, 3, 2, 3, 3, 4, 2, 3, 3, 4, 3, 4, 4, 5, 2, 3, 3, 4, 3, 4, 4, 5, 3, 4, 4, 5, 4, 5, 5, 6, 2, 3, 3, 4, 3, 4, 4, 5, 3, 4, 4, 5, 4, 5, 5, 6, 3, 4, 4, 5, 4, 5, 5, 6, 4, 5, 5, 6, 5, 6, 6, 7, 2, 3, 3, 4, 3, 4, 4, 5, 3, 4, 4, 5, 4, 5, 5, 6, 3, 4, 4, 5, 4, 5, 5, 6, 4, 5, 5, 6, 5, 6, 6, 7, 3, 4, 4, 5, 4, 5, 5, 6, 4, 5, 5, 6, 5, 6, 6, 7, 4, 5, 5, 6, 5, 6, 6, 7, 5, 6, 6, 7, 6, 7, 7, 8]⟩ : ByteArray) (Go.bits .and .u32 a0 255))) % 256)) else (none)) else (none)) else (none)) else (none)) else (none)) else (none)) = some r := by first | (rw [hji6] at H; exact H) | (simp only [hji6] at H ⊢; exact H)
      by_cases c7 : 0 ≤ (ji6)
      · rw [if_pos c7] at H
        have c7b0 : decide (0 ≤ (ji6)) = true := decide_eq_true c7
        clear c7
        by_cases c8 : (ji6) < 256
        · rw [if_pos c8] at H
          have c8b0 : decide ((ji6) < 256) = true := decide_eq_true c8
          clear c8
          obtain ⟨ji10, hji10⟩ : ∃ j_ : Int, (Go.bits .and .u32 (a0 / 256) 255) = j_ := ⟨_, rfl⟩
          replace H : (if 0 ≤ (ji10) then (if (ji10) < 256 then (if 0 ≤ (Go.bits .and .u32 a0 255) then (if (Go.bits .and .u32 a0 255) < 256 then (some (((((((bt (⟨#[0, 1, 1, 2, 1, 2, 2, 3, 1, 2, 2, 3, 2, 3, 3, 4, 1, 2, 2, 3, 2, 3, 3, 4, 2, 3, 3, 4, 3, 4, 4, 5, 1, 2, 2, 3, 2, 3, 3, 4, 2, 3, 3, 4, 3, 4, 4, 5, 2, 3, 3, 4, 3, 4, 4, 5, 3, 4, 4, 5, 4, 5, 5, 6, 1, 2, 2, 3, 2, 3, 3, 4, 2, 3, 3, 4, 3, 4, 4, 5, 2, 3, 3, 4, 3, 4, 4, 5, 3, 4, 4, 5, 4, 5, 5, 6, 2, 3, 3, 4, 3, 4, 4, 5, 3, 4, 4, 5, 4, 5, 5, 6, 3, 4, 4, 5, 4, 5, 5, 6, 4, 5, 5, 6, 5, 6, 6, 7, 1, 2, 2, 3, 2, 3, 3, 4, 2, 3, 3, 4, 3, 4, 4, 5, 2, 3, 3, 4, 3, 4, 4, 5, 3, 4, 4, 5, 4, 5, 5, 6, 2, 3, 3, 4, 3, 4, 4, 5, 3, 4, 4, 5, 4, 5, 5, 6, 3, 4, 4, 5, 4, 5, 5, 6, 4, 5, 5, 6, 5, 6, 6, 7, 2, 3, 3, 4, 3, 4, 4, 5, 3, 4, 4, 5, 4, 5, 5, 6, 3, 4, 4, 5, 4, 5, 5, 6, 4, 5, 5, 6, 5, 6, 6, 7, 3, 4, 4, 5, 4, 5, 5, 6, 4, 5, 5, 6, 5, 6, 6, 7, 4, 5, 5, 6, 5, 6, 6, 7, 5, 6, 6, 7, 6, 7, 7, 8]⟩ : ByteArray) (ji2)) + (bt (⟨#[0, 1, 1, 2, 1, 2, 2, 3, 1, 2, 2, 3, 2, 3, 3, 4, 1, 2, 2, 3, 2, 3, 3, 4, 2, 3, 3, 4, 3, 4, 4, 5, 1, 2, 2, 3, 2, 3, 3, 4, 2, 3, 3, 4, 3, 4, 4, 5, 2, 3, 3, 4, 3, 4, 4, 5, 3, 4, 4, 5, 4, 5, 5, 6, 1, 2, 2, 3, 2, 3, 3, 4, 2, 3, 3, 4, 3, 4, 4, 5, 2, 3, 3, 4, 3, 4, 4, 5, 3, 4, 4, 5, 4, 5, 5, 6, 2, 3, 3, 4, 3, 4, 4, 5, 3, 4, 4, 5, 4, 5, 5, 6, 3, 4, 4, 5, 4, 5, 5, 6, 4, 5, 5, 6, 5, 6, 6, 7, 1, 2, 2, 3, 2, 3, 3, 4, 2, 3, 3, 4, 3, 4, 4, 5, 2, 3, 3, 4, 3, 4, 4, 5, 3, 4, 4, 5, 4, 5, 5, 6, 2, 3, 3, 4, 3, 4, 4, 5, 3, 4, 4, 5, 4, 5, 5, 6, 3, 4, 4, 5, 4, 5, 5, 6, 4, 5, 5, 6, 5, 6, 6, 7, 2, 3, 3, 4, 3, 4, 4, 5, 3, 4, 4, 5, 4, 5, 5, 6, 3, 4, 4, 5, 4, 5, 5, 6, 4, 5, 5, 6, 5, 6, 6, 7, 3, 4, 4, 5, 4, 5, 5, 6, 4, 5, 5, 6, 5, 6, 6, 7, 4, 5, 5, 6, 5, 6, 6, 7, 5, 6, 6, 7, 6, 7, 7, 8]⟩ : ByteArray) (ji6))) % 256) + (bt (⟨#[0, 1, 1, 2, 1, 2, 2, 3, 1, 2, 2, 3, 2, 3, 3, 4, 1, 2, 2, 3, 2, 3, 3, 4, 2, 3, 3, 4, 3, 4, 4, 5, 1, 2, 2, 3, 2, 3, 3, 4, 2, 3, 3, 4, 3, 4, 4, 5, 2, 3, 3, 4, 3, 4, 4, 5, 3, 4, 4, 5, 4, 5, 5, 6, 1, 2, 2, 3, 2, 3, 3, 4, 2, 3, 3, 4, 3, 4, 4, 5, 2, 3, 3, 4, 3, 4, 4, 5, 3, 4, 4, 5, 4, 5, 5, 6, 2, 3, 3, 4, 3, 4, 4, 5, 3, 4, 4, 5, 4, 5, 5, 6, 3, 4, 4, 5, 4, 5, 5, 6, 4, 5, 5, 6, 5, 6, 6, 7, 1, 2, 2, 3, 2, 3, 3, 4, 2, 3, 3, 4, 3, 4, 4, 5, 2, 3, 3, 4, 3, 4, 4, 5, 3, 4, 4, 5, 4, 5, 5, 6, 2, 3, 3, 4, 3, 4, 4, 5, 3, 4, 4, 5, 4, 5, 5, 6, 3, 4, 4, 5, 4, 5, 5, 6, 4, 5, 5, 6, 5, 6, 6, 7, 2, 3, 3, 4, 3, 4, 4, 5, 3, 4, 4, 5, 4, 5, 5, 6, 3, 4, 4, 5, 4, 5, 5, 6, 4, 5, 5, 6, 5, 6, 6, 7, 3, 4, 4, 5, 4, 5, 5, 6, 4, 5, 5, 6, 5, 6, 6, 7, 4, 5, 5, 6, 5, 6, 6, 7, 5, 6, 6, 7, 6, 7, 7, 8]⟩ : ByteArray) (ji10))) % 256) + (bt (⟨#[0, 1, 1, 2, 1, 2, 2, 3, 1, 2, 2, 3, 2, 3, 3, 4, 1, 2, 2, 3, 2, 3, 3, 4, 2, 3, 3, 4, 3, 4, 4, 5, 1, 2, 2, 3, 2, 3, 3, 4, 2, 3, 3, 4, 3, 4, 4, 5, 2, 3, 3, 4, 3, 4, 4, 5, 3, 4, 4, 5, 4, 5, 5, 6, 1, 2, 2, 3, 2, 3, 3, 4, 2, 3, 3, 4, 3, 4, 4, 5, 2, 3, 3, 4, 3, 4, 4, 5, 3, 4, 4, 5, 4, 5, 5, 6, 2, 3, 3, 4, 3, 4, 4, 5, 3, 4, 4, 5, 4, 5, 5, 6, 3, 4, 4, 5, 4, 5, 5, 6, 4, 5, 5, 6, 5, 6, 6, 7, 1, 2, 2, 3, 2, 3, 3, 4, 2, 3, 3, 4, 3, 4, 4, 5, 2, 3, 3, 4, 3, 4, 4, 5, 3, 4, 4, 5, 4, 5, 5, 6, 2, 3, 3, 4, 3, 4, 4, 5, 3, 4, 4, 5, 4, 5, 5, 6, 3, 4, 4, 5, 4, 5, 5, 6, 4, 5, 5, 6, 5, 6, 6, 7, 2, 3, 3, 4, 3, 4, 4, 5, 3, 4, 4, 5, 4, 5, 5, 6, 3, 4, 4, 5, 4, 5, 5, 6, 4, 5, 5, 6, 5, 6, 6, 7, 3, 4, 4, 5, 4, 5, 5, 6, 4, 5, 5, 6, 5, 6, 6, 7, 4, 5, 5, 6, 5, 6, 6, 7, 5, 6, 6, 7, 6, 7, 7, 8]⟩ : ByteArray) (Go.bits .and .u32 a0 255))) % 256)) else (none)) else (none)) else (none)) else (none)) = some r := by first | (rw [hji10] at H; exact H) | (simp only [hji10] at H ⊢; exact H)
          by_cases c11 : 0 ≤ (ji10)
          · rw [if_pos c11] at H
            have c11b0 : decide (0 ≤ (ji10)) = true := decide_eq_true c11
            clear c11
            by_cases c12 : (ji10) < 256
            · rw [if_pos c12] at H
              have c12b0 : decide ((ji10) < 256) = true := decide_eq_true c12
              clear c12
              by_cases c14 : 0 ≤ (Go.bits .and .u32 a0 255)
              · rw [if_pos c14] at H
                have c14b0 : decide (0 ≤ (Go.bits .and .u32 a0 255)) = true := decide_eq_true c14
                clear c14
                by_cases c15 : (Go.bits .and .u32 a0 255) < 256
                · rw [if_pos c15] at H
                  have c15b0 : decide ((Go.bits .and .u32 a0 255) < 256) = true := decide_eq_true c15
                  clear c15
                  obtain rfl := Option.some.inj H
                  have p5 : 0 ≤ ((ji2) : Int) := of_decide_eq_true (by first | (with_reducible assumption) | assumption)
                  have q5 : (ji2) < (256 : Int) := of_decide_eq_true (by first | (with_reducible assumption) | assumption)
                  have hx5 := bt_at (⟨#[0, 1, 1, 2, 1, 2, 2, 3, 1, 2, 2, 3, 2, 3, 3, 4, 1, 2, 2, 3, 2, 3, 3, 4, 2, 3, 3, 4, 3, 4, 4, 5, 1, 2, 2, 3, 2, 3, 3, 4, 2, 3, 3, 4, 3, 4, 4, 5, 2, 3, 3, 4, 3, 4, 4, 5, 3, 4, 4, 5, 4, 5, 5, 6, 1, 2, 2, 3, 2, 3, 3, 4, 2, 3, 3, 4, 3, 4, 4, 5, 2, 3, 3, 4, 3, 4, 4, 5, 3, 4, 4, 5, 4, 5, 5, 6, 2, 3, 3, 4, 3, 4, 4, 5, 3, 4, 4, 5, 4, 5, 5, 6, 3, 4, 4, 5, 4, 5, 5, 6, 4, 5, 5, 6, 5, 6, 6, 7, 1, 2, 2, 3, 2, 3, 3, 4, 2, 3, 3, 4, 3, 4, 4, 5, 2, 3, 3, 4, 3, 4, 4, 5, 3, 4, 4, 5, 4, 5, 5, 6, 2, 3, 3, 4, 3, 4, 4, 5, 3, 4, 4, 5, 4, 5, 5, 6, 3, 4, 4, 5, 4, 5, 5, 6, 4, 5, 5, 6, 5, 6, 6, 7, 2, 3, 3, 4, 3, 4, 4, 5, 3, 4, 4, 5, 4, 5, 5, 6, 3, 4, 4, 5, 4, 5, 5, 6, 4, 5, 5, 6, 5, 6, 6, 7, 3, 4, 4, 5, 4, 5, 5, 6, 4, 5, 5, 6, 5, 6, 6, 7, 4, 5, 5, 6, 5, 6, 6, 7, 5, 6, 6, 7, 6, 7, 7, 8]⟩ : ByteArray) (ji2)
                  replace p5 := eq_true p5
                  replace q5 := eq_true q5
                  have p9 : 0 ≤ ((ji6) : Int) := of_decide_eq_true (by first | (with_reducible assumption) | assumption)
                  have q9 : (ji6) < (256 : Int) := of_decide_eq_true (by first | (with_reducible assumption) | assumption)
                  have hx9 := bt_at (⟨#[0, 1, 1, 2, 1, 2, 2, 3, 1, 2, 2, 3, 2, 3, 3, 4, 1, 2, 2, 3, 2, 3, 3, 4, 2, 3, 3, 4, 3, 4, 4, 5, 1, 2, 2, 3, 2, 3, 3, 4, 2, 3, 3, 4, 3, 4, 4, 5, 2, 3, 3, 4, 3, 4, 4, 5, 3, 4, 4, 5, 4, 5, 5, 6, 1, 2, 2, 3, 2, 3, 3, 4, 2, 3, 3, 4, 3, 4, 4, 5, 2, 3, 3, 4, 3, 4, 4, 5, 3, 4, 4, 5, 4, 5, 5, 6, 2, 3, 3, 4, 3, 4, 4, 5, 3, 4, 4, 5, 4, 5, 5, 6, 3, 4, 4, 5, 4, 5, 5, 6, 4, 5, 5, 6, 5, 6, 6, 7, 1, 2, 2, 3, 2, 3, 3, 4, 2, 3, 3, 4, 3, 4, 4, 5, 2, 3, 3, 4, 3, 4, 4, 5, 3, 4, 4, 5, 4, 5, 5, 6, 2, 3, 3, 4, 3, 4, 4, 5, 3, 4, 4, 5, 4, 5, 5, 6, 3, 4, 4, 5, 4, 5, 5, 6, 4, 5, 5, 6, 5, 6, 6, 7, 2, 3, 3, 4, 3, 4, 4, 5, 3, 4, 4, 5, 4, 5, 5, 6, 3, 4, 4, 5, 4, 5, 5, 6, 4, 5, 5, 6, 5, 6, 6, 7, 3, 4, 4, 5, 4, 5, 5, 6, 4, 5, 5, 6, 5, 6, 6, 7, 4, 5, 5, 6, 5, 6, 6, 7, 5, 6, 6, 7, 6, 7, 7, 8]⟩ : ByteArray) (ji6)
                  replace p9 := eq_true p9
                  replace q9 := eq_true q9
                  have p13 : 0 ≤ ((ji10) : Int) := of_decide_eq_true (by first | (with_reducible assumption) | assumption)
                  have q13 : (ji10) < (256 : Int) := of_decide_eq_true (by first | (with_reducible assumption) | assumption)
                  have hx13 := bt_at (⟨#[0, 1, 1, 2, 1, 2, 2, 3, 1, 2, 2, 3, 2, 3, 3, 4, 1, 2, 2, 3, 2, 3, 3, 4, 2, 3, 3, 4, 3, 4, 4, 5, 1, 2, 2, 3, 2, 3, 3, 4, 2, 3, 3, 4, 3, 4, 4, 5, 2, 3, 3, 4, 3, 4, 4, 5, 3, 4, 4, 5, 4, 5, 5, 6, 1, 2, 2, 3, 2, 3, 3, 4, 2, 3, 3, 4, 3, 4, 4, 5, 2, 3, 3, 4, 3, 4, 4, 5, 3, 4, 4, 5, 4, 5, 5, 6, 2, 3, 3, 4, 3, 4, 4, 5, 3, 4, 4, 5, 4, 5, 5, 6, 3, 4, 4, 5, 4, 5, 5, 6, 4, 5, 5, 6, 5, 6, 6, 7, 1, 2, 2, 3, 2, 3, 3, 4, 2, 3, 3, 4, 3, 4, 4, 5, 2, 3, 3, 4, 3, 4, 4, 5, 3, 4, 4, 5, 4, 5, 5, 6, 2, 3, 3, 4, 3, 4, 4, 5, 3, 4, 4, 5, 4, 5, 5, 6, 3, 4, 4, 5, 4, 5, 5, 6, 4, 5, 5, 6, 5, 6, 6, 7, 2, 3, 3, 4, 3, 4, 4, 5, 3, 4, 4, 5, 4, 5, 5, 6, 3, 4, 4, 5, 4, 5, 5, 6, 4, 5, 5, 6, 5, 6, 6, 7, 3, 4, 4, 5, 4, 5, 5, 6, 4, 5, 5, 6, 5, 6, 6, 7, 4, 5, 5, 6, 5, 6, 6, 7, 5, 6, 6, 7, 6, 7, 7, 8]⟩ : ByteArray) (ji10)
                  replace p13 := eq_true p13
                  replace q13 := eq_true q13
                  have p16 : 0 ≤ ((Go.bits .and .u32 a0 255) : Int) := of_decide_eq_true (by first | (with_reducible assumption) | assumption)
                  have q16 : (Go.bits .and .u32 a0 255) < (256 : Int) := of_decide_eq_true (by first | (with_reducible assumption) | assumption)
                  have hx16 := bt_at (⟨#[0, 1, 1, 2, 1, 2, 2, 3, 1, 2, 2, 3, 2, 3, 3, 4, 1, 2, 2, 3, 2, 3, 3, 4, 2, 3, 3, 4, 3, 4, 4, 5, 1, 2, 2, 3, 2, 3, 3, 4, 2, 3, 3, 4, 3, 4, 4, 5, 2, 3, 3, 4, 3, 4, 4, 5, 3, 4, 4, 5, 4, 5, 5, 6, 1, 2, 2, 3, 2, 3, 3, 4, 2, 3, 3, 4, 3, 4, 4, 5, 2, 3, 3, 4, 3, 4, 4, 5, 3, 4, 4, 5, 4, 5, 5, 6, 2, 3, 3, 4, 3, 4, 4, 5, 3, 4, 4, 5, 4, 5, 5, 6, 3, 4, 4, 5, 4, 5, 5, 6, 4, 5, 5, 6, 5, 6, 6, 7, 1, 2, 2, 3, 2, 3, 3, 4, 2, 3, 3, 4, 3, 4, 4, 5, 2, 3, 3, 4, 3, 4, 4, 5, 3, 4, 4, 5, 4, 5, 5, 6, 2, 3, 3, 4, 3, 4, 4, 5, 3, 4, 4, 5, 4, 5, 5, 6, 3, 4, 4, 5, 4, 5, 5, 6, 4, 5, 5, 6, 5, 6, 6, 7, 2, 3, 3, 4, 3, 4, 4, 5, 3, 4, 4, 5, 4, 5, 5, 6, 3, 4, 4, 5, 4, 5, 5, 6, 4, 5, 5, 6, 5, 6, 6, 7, 3, 4, 4, 5, 4, 5, 5, 6, 4, 5, 5, 6, 5, 6, 6, 7, 4, 5, 5, 6, 5, 6, 6, 7, 5, 6, 6, 7, 6, 7, 7, 8]⟩ : ByteArray) (Go.bits .and .u32 a0 255)
                  replace p16 := eq_true p16
                  replace q16 := eq_true q16
                  go_enter Try.func58, Try.ntmps58
                  go_wp2
                  repeat (go_quiet (fail); try go_wp2)
                  go_ret
                  exact ⟨by first | rfl | (simp; done) | (simp only [← hji2, ← hji6, ← hji10] <;> (first | rfl | simp)) | (simp [*]; done), by repeat (first | exact Drawn0.refl _ | apply Drawn0.step)⟩
                · rw [if_neg c15] at H
                  exact absurd H (by simp)
              · rw [if_neg c14] at H
                exact absurd H (by simp)
            · rw [if_neg c12] at H
              exact absurd H (by simp)
          · rw [if_neg c11] at H
            exact absurd H (by simp)
        · rw [if_neg c8] at H
          exact absurd H (by simp)
      · rw [if_neg c7] at H
        exact absurd H (by simp)
    · rw [if_neg c4] at H
      exact absurd H (by simp)
  · rw [if_neg c3] at H
    exact absurd H (by simp)

end Go.Proofs.Ytkhbffjfclepfaa.Q

/- Function 51, mainsheet_cpuset_Count: contracts over the given program's functions, one a function; no condition beyond those that each theorem states. Written by this session's program over the kit's printer, and by hand. -/
namespace Go.Proofs.Ytkhbffjfclepfaa.Q
open Go.RowKit Go.Proofs.YtkhbffjfclepfaaW.PrintWords Go.Proofs.YtkhbffjfclepfaaW.PrintLast Go.Proofs.YtkhbffjfclepfaaW.PrintMore
attribute [local go_sem] max2_int min2_int max_two min_two max_three min_three max_four min_four
set_option linter.unusedVariables false
set_option linter.unusedSimpArgs false

/-! ### cpuset_Count: function 51 -/
def cpuset_Count.f (a0 : Int) : Option (Int) := (bits_OnesCount32.f (Go.bits .and .u32 a0 255)).bind fun t509 => (some t509)
set_option maxHeartbeats 8000000 in
set_option maxRecDepth 100000 in
theorem cpuset_Count.calls (a0 : Int) (r : Int) (w : World) (h : cpuset_Count.f a0 = some r) :
    Calls Try.prog 51 #[.int .u32 a0] w fun e w' => e = .returned (.int .i64 r) ∧ Drawn0 w w' := by
  have H : ((bits_OnesCount32.f (Go.bits .and .u32 a0 255)).bind fun t509 => (some t509)) = some r := h
  clear h
  replace H := Option.bind_eq_some_iff.mp H
  obtain ⟨t509, A20, H⟩ := H
  replace H : (some t509) = some r := H
  have A2 := Aside0.mk A20
  clear A20
  obtain rfl := Option.some.inj H
  go_enter Try.func51, Try.ntmps51
  go_wp2_with (first | ((with_reducible refine gate_callee (f := 58) rfl ?_); refine goesL_ (some 5) rfl rfl Try.func58 (by kernel_rfl) rfl #[.int .u32 (Go.bits .and .u32 a0 255)] rfl (by (try simp only [List.map_toArray, List.map_cons, List.map_nil]); first | done | rfl | (simp only [List.length_drop, List.length_take]; rfl)) ?_; (with_reducible refine (bits_OnesCount32.calls (Go.bits .and .u32 a0 255) t509 _ A2.out).mono ?_); rintro e w' ⟨rfl, ⟨nd, rfl⟩⟩; refine ⟨_, rfl, ?_⟩))
  go_ret
  exact ⟨by first | rfl | (simp; done) | (simp [*]; done), by repeat (first | exact Drawn0.refl _ | apply Drawn0.step)⟩

end Go.Proofs.Ytkhbffjfclepfaa.Q
