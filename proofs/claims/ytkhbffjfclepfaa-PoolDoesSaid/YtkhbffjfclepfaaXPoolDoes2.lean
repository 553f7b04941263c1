/- Part 2 of 13 of what the row of PoolDoes stands on: contracts over the given program's functions, the plain law, the row; no condition beyond those that each theorem states. -/
import Derived.Test.YtkhbffjfclepfaaXPoolDoes1
import Derived.RegionTactic
import Derived.BigRegion
import Derived.Deep.RegionLaw
import Derived.Lib.SliceRun
/- Function 29, mainsheet_pool_Split: contracts over the given program's functions, one a function; no condition beyond those that each theorem states. Written by this session's program over the kit's printer, and by hand. -/
namespace Go.Proofs.Ytkhbffjfclepfaa.Q
open Go.RowKit Go.Proofs.YtkhbffjfclepfaaW.PrintWords Go.Proofs.YtkhbffjfclepfaaW.PrintLast Go.Proofs.YtkhbffjfclepfaaW.PrintMore
attribute [local go_sem] max2_int min2_int max_two min_two max_three min_three max_four min_four
set_option linter.unusedVariables false
set_option linter.unusedSimpArgs false

/-! ### pool_Split: function 29, by hand -/
set_option maxHeartbeats 2000000 in
theorem pool_Split1.ok (gq gs gf gn : Nat) (l : List Int) (frm s : Int) (v : Value) (base B0 : Nat) (w : World)
    (hq : w.heap[gq]? = some (.cells #[v] 26 (0, 0))) (hR : Kd.R (Kd.int .u32) 31 w B0 (fun _ => True) v l)
    (hs : w.heap[gs]? = some (.cells #[.int .u32 s] 31 (0, 0))) (hf : w.heap[gf]? = some (.cells #[.int .i64 frm] 3 (0, 0))) (hn : w.heap[gn]? = some (.cells #[.int .i64 0] 3 (0, 0)))
    (h0 : 0 ≤ frm) (h1 : frm < l.length) (hl : l.length < 35184372088832) (hB0 : ∀ g, g = gs ∨ g = gf ∨ g = gn → g < B0) (hfn : gf ≠ gn) (hB0w : B0 ≤ w.heap.size) (hbn : base ≤ gn) (hbB : base ≤ B0) (hBq : B0 ≤ gq)
    (hc : cpuset_Check.f s = some 0) (hs0 : s ≠ 0) (hw : cpuset_Within.f s (rd l frm) = some true) (hne : s ≠ rd l frm) (h4 : l.length ≠ 4) :
    Calls Try.prog 46 #[.pointer (some ⟨gq, 0, none⟩), .pointer (some ⟨gs, 0, none⟩), .pointer (some ⟨gf, 0, none⟩), .pointer (some ⟨gn, 0, none⟩)] w fun e W' => e = .returned (.int .i64 0) ∧ Below base w W' ∧ W'.heap[gn]? = some (.cells #[.int .i64 l.length] 3 (0, 0)) ∧ (∀ k, k < w.heap.size → k ≠ gq → k ≠ gn → some k ≠ v.ownBlock → W'.heap[k]? = w.heap[k]?) ∧ ∃ v', W'.heap[gq]? = some (.cells #[v'] 26 (0, 0)) ∧ Kd.R (Kd.int .u32) 31 W' B0 (fun _ => True) v' (l.set frm.toNat (bits .andNot .u32 (rd l frm) s) ++ [s]) := by
  have HX0 := Aside0.mk hB0w
  have HX1 := Aside0.mk hbn
  have HX2 := Aside0.mk hbB
  have HX3 := Aside0.mk hBq
  clear hB0w hbn hbB hBq
  obtain ⟨go, co, rfl, hgo, hgl, cl, HG⟩ := Kd.R_form hR (by omega)
  have BKq := Aside0.mk hq
  have BKs := Aside0.mk hs
  have BKf := Aside0.mk hf
  have BKn := Aside0.mk hn
  have HO := Aside0.mk hR
  have HC := Aside0.mk hc
  have HW := Aside0.mk hw
  have cq : w.cell? ⟨gq, 0, none⟩ = some (.slice (some ⟨go, 0, none⟩) l.length co) := (blk_cell hq 0).trans rfl
  have cs : w.cell? ⟨gs, 0, none⟩ = some (.int .u32 s) := (blk_cell hs 0).trans rfl
  have cf : w.cell? ⟨gf, 0, none⟩ = some (.int .i64 frm) := (blk_cell hf 0).trans rfl
  have cn : w.cell? ⟨gn, 0, none⟩ = some (.int .i64 0) := (blk_cell hn 0).trans rfl
  have fn_ := blk_frozen hn 0
  have fq_ := blk_frozen hq 0
  obtain ⟨ce, fe⟩ := Kd.R_celln 0 hR frm h0 h1
  have n1 : ¬ gn = gq := by have := hB0 gn (by simp); intro e; subst e; rw [hq] at hn; cases hn
  have n2 : ¬ gs = gn := by intro e; subst e; rw [hs] at hn; cases hn
  have n3 : ¬ gs = go := by have := hB0 gs (by simp); omega
  have n4 : ¬ gf = go := by have := hB0 gf (by simp); omega
  have n5 : ¬ gn = go := by have := hB0 gn (by simp); omega
  have n6 : ¬ gq = go := by intro e; subst e; rw [hq] at HG; cases HG
  have n7 : ¬ gq = gn := fun e => n1 e.symm
  have n8 : ¬ go = gn := fun e => n5 e.symm
  clear hq hs hf hn hR hc hw hB0 HG
  have d1 : (s == 0) = false := beq_eq_false_iff_ne.mpr hs0
  have d2 : (s == rd l frm) = false := beq_eq_false_iff_ne.mpr hne
  have d3 : ((l.length : Int) == 4) = false := beq_eq_false_iff_ne.mpr (by omega)
  have d4 : decide (0 ≤ frm) = true := decide_eq_true h0
  have d5 : decide (frm < (l.length : Int)) = true := decide_eq_true h1
  have d6 := eq_true h0
  have d7 := eq_true h1
  clear hs0 hne h4 h0 h1
  have e : rdOf 0 l frm = rd l frm := rfl
  rw [e] at ce
  clear e
  go_enter Try.func46, Try.ntmps46
  go_wp2_with (first | (go_at_call 38; refine (cpuset_Check.calls s 0 _ HC.out).mono ?_; rintro e w' ⟨rfl, nd, rfl⟩))
  go_quiet (fail)
  go_wp2_with (first | (go_at_call 47; refine (cpuset_Within.calls s _ true _ HW.out).mono ?_; rintro e w' ⟨rfl, nd2, rfl⟩))
  go_region
  have HO2 : Aside0 (Kd.R (Kd.int .u32) 31 (((w.drewN (nd + nq + nd2)).setCell ⟨gn, 0, none⟩ (.int .i64 l.length)).setCell ⟨go, frm.toNat, none⟩ (.int .u32 (bits .andNot .u32 (rd l frm) s))).drew B0 (fun _ => True) (.slice (some ⟨go, 0, none⟩) l.length co) (l.set frm.toNat (bits .andNot .u32 (rd l frm) s))) := ⟨Kd.R_drew (Kd.R_putn (Kd.R_set (Kd.R_drewN HO.out _) (blk_drewN BKn.out _) (by decide) 0 _) frm _)⟩
  have BKq2 : Aside0 ((((w.drewN (nd + nq + nd2)).setCell ⟨gn, 0, none⟩ (.int .i64 l.length)).setCell ⟨go, frm.toNat, none⟩ (.int .u32 (bits .andNot .u32 (rd l frm) s))).drew.heap[gq]? = some (.cells #[.slice (some ⟨go, 0, none⟩) l.length co] 26 (0, 0))) := ⟨blk_drew (blk_far (blk_far (blk_drewN BKq.out _) (p := ⟨gn, 0, none⟩) n7 _) (p := ⟨go, frm.toNat, none⟩) n6 _)⟩
  have BKn2 : Aside0 ((((w.drewN (nd + nq + nd2)).setCell ⟨gn, 0, none⟩ (.int .i64 l.length)).setCell ⟨go, frm.toNat, none⟩ (.int .u32 (bits .andNot .u32 (rd l frm) s))).drew.heap[gn]? = some (.cells #[.int .i64 l.length] 3 (0, 0))) := ⟨blk_drew (blk_far (blk_put (cs := #[.int .i64 0]) (blk_drewN BKn.out _) 0 _ rfl) (p := ⟨go, frm.toNat, none⟩) n5 _)⟩
  have BKs2 : Aside0 ((((w.drewN (nd + nq + nd2)).setCell ⟨gn, 0, none⟩ (.int .i64 l.length)).setCell ⟨go, frm.toNat, none⟩ (.int .u32 (bits .andNot .u32 (rd l frm) s))).drew.heap[gs]? = some (.cells #[.int .u32 s] 31 (0, 0))) := ⟨blk_drew (blk_far (blk_far (blk_drewN BKs.out _) (p := ⟨gn, 0, none⟩) n2 _) (p := ⟨go, frm.toNat, none⟩) n3 _)⟩
  have HX : Aside0 (B0 ≤ (((w.drewN (nd + nq + nd2)).setCell ⟨gn, 0, none⟩ (.int .i64 l.length)).setCell ⟨go, frm.toNat, none⟩ (.int .u32 (bits .andNot .u32 (rd l frm) s))).drew.drew.heap.size) := ⟨by have := HX0.out; simpa [World.setCell] using this⟩
  have FB : Aside0 (Below base w (((w.drewN (nd + nq + nd2)).setCell ⟨gn, 0, none⟩ (.int .i64 l.length)).setCell ⟨go, frm.toNat, none⟩ (.int .u32 (bits .andNot .u32 (rd l frm) s))).drew) := ⟨(((Below.refl base w).trans (pw_below_drewN (Below.refl _ _) (nd + nq + nd2) |>.mono (Nat.le_trans HX2.out HX0.out))).setCell (p := ⟨gn, 0, none⟩) HX1.out _ |>.setCell (p := ⟨go, frm.toNat, none⟩) (Nat.le_trans HX2.out hgo) _).drew⟩
  have FK : Aside0 (∀ k, k ≠ gn → k ≠ go → (((w.drewN (nd + nq + nd2)).setCell ⟨gn, 0, none⟩ (.int .i64 l.length)).setCell ⟨go, frm.toNat, none⟩ (.int .u32 (bits .andNot .u32 (rd l frm) s))).drew.heap[k]? = w.heap[k]?) := ⟨fun k k1 k2 => (Below.heap_setCell _ ⟨go, frm.toNat, none⟩ _ k k2).trans (Below.heap_setCell _ ⟨gn, 0, none⟩ _ k k1)⟩
  have FS : Aside0 ((((w.drewN (nd + nq + nd2)).setCell ⟨gn, 0, none⟩ (.int .i64 l.length)).setCell ⟨go, frm.toNat, none⟩ (.int .u32 (bits .andNot .u32 (rd l frm) s))).drew.heap.size = w.heap.size) := ⟨by simp [World.setCell]⟩
  generalize (((w.drewN (nd + nq + nd2)).setCell ⟨gn, 0, none⟩ (.int .i64 l.length)).setCell ⟨go, frm.toNat, none⟩ (.int .u32 (bits .andNot .u32 (rd l frm) s))).drew = w2 at HO2 BKq2 BKn2 BKs2 HX FB FK FS ⊢
  clear cq cs cf cn ce
  have cq : w2.cell? ⟨gq, 0, none⟩ = some (.slice (some ⟨go, 0, none⟩) l.length co) := (blk_cell BKq2.out 0).trans rfl
  have cs : w2.cell? ⟨gs, 0, none⟩ = some (.int .u32 s) := (blk_cell BKs2.out 0).trans rfl
  go_wp2
  have HL := Aside0.mk hl
  have fq2 := blk_frozen BKq2.out 0
  clear fe fn_ fq_ hl
  have cq3 : (w2.alloc (.cells #[.int .u32 s] 31)).cell? ⟨gq, 0, none⟩ = some (.slice (some ⟨go, 0, none⟩) l.length co) := (blk_cell (blk_alloc BKq2.out _) 0).trans rfl
  go_region_law (refine Kd.R_append_step (Kd.int .u32) (w0 := w2) (W := w2.drew) B0 rfl (.tmp 59) (.tmp 61) 24 31 (.int .u32 0) 4 rfl Try.underlying24 info31 rfl (by decide) (by decide) (.slice (some ⟨go, 0, none⟩) l.length co) (l.set frm.toNat (bits .andNot .u32 (rd l frm) s)) s [.int .u32 s] (fun _ => True) (fun _ => False) rfl rfl rfl (fun _ h => h.elim) (fun _ _ => trivial) (Kd.R_drew HO2.out) (Below.drew (Below.refl _ _)) HX.out (by have := HL.out; simp; omega) ?_; intro v1 w1 ho1 hb1 hg1 hat1; obtain ⟨A1, c1, e1⟩ := Kd.R_slice ho1; subst e1; have fq1 := blk_frozen (blk_grown (blk_drew BKq2.out) hg1 (Kd.R_ne HO2.out BKq2.out (by decide))) 0; have cq1 : w1.cell? ⟨gq, 0, none⟩ = some (.slice (some ⟨go, 0, none⟩) l.length co) := (blk_cell (blk_grown (blk_drew BKq2.out) hg1 (Kd.R_ne HO2.out BKq2.out (by decide))) 0).trans rfl)
  all_goals
    go_wp2
    go_ret
    refine ⟨rfl, ?_, ?_, ?_, .slice A1 (l.length + 1) c1, ?_, ?_⟩
    · exact (FB.out.trans (hb1.mono HX2.out)).setCell (p := ⟨gq, 0, none⟩) (Nat.le_trans HX2.out HX3.out) _
    · exact blk_far (blk_grown (g := gn) (blk_drew BKn2.out) hg1 (fun e_ => n5 (Option.some.inj e_))) (p := ⟨gq, 0, none⟩) n1 _
    · intro k_ k1 k2 k3 k4
      refine (Below.heap_setCell _ ⟨gq, 0, none⟩ _ k_ k2).trans ((hg1.block k_ (by show k_ < w2.heap.size; rw [FS.out]; exact k1) k4).trans (FK.out k_ k3 (fun e_ => k4 (by rw [e_]; rfl))))
    · exact blk_put (cs := #[.slice (some ⟨go, 0, none⟩) l.length co]) (blk_grown (blk_drew BKq2.out) hg1 (Kd.R_ne HO2.out BKq2.out (by decide))) 0 _ rfl
    · rw [← show (l.set frm.toNat (bits .andNot .u32 (rd l frm) s) ++ [s]).length = l.length + 1 from by simp]
      exact Kd.R_set ho1 (blk_grown (blk_drew BKq2.out) hg1 (Kd.R_ne HO2.out BKq2.out (by decide))) (by decide) 0 _
set_option maxHeartbeats 2000000 in
theorem pool_Split1.badset (gq gs gf gn : Nat) (l : List Int) (frm s : Int) (v : Value) (B0 : Nat) (w : World)
    (hq : w.heap[gq]? = some (.cells #[v] 26 (0, 0))) (hR : Kd.R (Kd.int .u32) 31 w B0 (fun _ => True) v l)
    (hs : w.heap[gs]? = some (.cells #[.int .u32 s] 31 (0, 0))) (hf : w.heap[gf]? = some (.cells #[.int .i64 frm] 3 (0, 0))) 
    (h0 : 0 ≤ frm) (h1 : frm < l.length) (hl : l.length < 35184372088832) (c : Int) (hc : cpuset_Check.f s = some c) (hc0 : c ≠ 0) :
    Calls Try.prog 46 #[.pointer (some ⟨gq, 0, none⟩), .pointer (some ⟨gs, 0, none⟩), .pointer (some ⟨gf, 0, none⟩), .pointer (some ⟨gn, 0, none⟩)] w fun e W' => e = .returned (.int .i64 c) ∧ ∃ n, W' = w.drewN n := by
  obtain ⟨go, co, rfl, hgo, hgl, cl, HG⟩ := Kd.R_form hR (by omega)
  have cq : w.cell? ⟨gq, 0, none⟩ = some (.slice (some ⟨go, 0, none⟩) l.length co) := (blk_cell hq 0).trans rfl
  have cs : w.cell? ⟨gs, 0, none⟩ = some (.int .u32 s) := (blk_cell hs 0).trans rfl
  have cf : w.cell? ⟨gf, 0, none⟩ = some (.int .i64 frm) := (blk_cell hf 0).trans rfl
  obtain ⟨ce, fe⟩ := Kd.R_celln 0 hR frm h0 h1
  clear hq hs hf hR HG
  have d4 : decide (0 ≤ frm) = true := decide_eq_true h0
  have d5 : decide (frm < (l.length : Int)) = true := decide_eq_true h1
  have d6 := eq_true h0
  have d7 := eq_true h1
  have HC := Aside0.mk hc
  have d1 : (c != 0) = true := bne_iff_ne.mpr hc0
  clear hc hc0
  clear h0 h1
  have e : rdOf 0 l frm = rd l frm := rfl
  rw [e] at ce
  clear e
  go_enter Try.func46, Try.ntmps46
  go_wp2_with (first | (go_at_call 38; refine (cpuset_Check.calls s c _ HC.out).mono ?_; rintro e w' ⟨rfl, nd, rfl⟩))
  go_ret
  exact ⟨rfl, _, rfl⟩
set_option maxHeartbeats 2000000 in
theorem pool_Split1.empty (gq gs gf gn : Nat) (l : List Int) (frm s : Int) (v : Value) (B0 : Nat) (w : World)
    (hq : w.heap[gq]? = some (.cells #[v] 26 (0, 0))) (hR : Kd.R (Kd.int .u32) 31 w B0 (fun _ => True) v l)
    (hs : w.heap[gs]? = some (.cells #[.int .u32 s] 31 (0, 0))) (hf : w.heap[gf]? = some (.cells #[.int .i64 frm] 3 (0, 0))) 
    (h0 : 0 ≤ frm) (h1 : frm < l.length) (hl : l.length < 35184372088832) (hc : cpuset_Check.f s = some 0) (hs0 : s = 0) :
    Calls Try.prog 46 #[.pointer (some ⟨gq, 0, none⟩), .pointer (some ⟨gs, 0, none⟩), .pointer (some ⟨gf, 0, none⟩), .pointer (some ⟨gn, 0, none⟩)] w fun e W' => e = .returned (.int .i64 2) ∧ ∃ n, W' = w.drewN n := by
  obtain ⟨go, co, rfl, hgo, hgl, cl, HG⟩ := Kd.R_form hR (by omega)
  have cq : w.cell? ⟨gq, 0, none⟩ = some (.slice (some ⟨go, 0, none⟩) l.length co) := (blk_cell hq 0).trans rfl
  have cs : w.cell? ⟨gs, 0, none⟩ = some (.int .u32 s) := (blk_cell hs 0).trans rfl
  have cf : w.cell? ⟨gf, 0, none⟩ = some (.int .i64 frm) := (blk_cell hf 0).trans rfl
  obtain ⟨ce, fe⟩ := Kd.R_celln 0 hR frm h0 h1
  clear hq hs hf hR HG
  have d4 : decide (0 ≤ frm) = true := decide_eq_true h0
  have d5 : decide (frm < (l.length : Int)) = true := decide_eq_true h1
  have d6 := eq_true h0
  have d7 := eq_true h1
  have HC := Aside0.mk hc
  subst hs0
  clear hc
  clear h0 h1
  have e : rdOf 0 l frm = rd l frm := rfl
  rw [e] at ce
  clear e
  go_enter Try.func46, Try.ntmps46
  go_wp2_with (first | (go_at_call 38; refine (cpuset_Check.calls 0 0 _ HC.out).mono ?_; rintro e w' ⟨rfl, nd, rfl⟩))
  go_quiet (fail)
  go_wp2
  go_ret
  exact ⟨rfl, _, rfl⟩
set_option maxHeartbeats 2000000 in
theorem pool_Split1.outside (gq gs gf gn : Nat) (l : List Int) (frm s : Int) (v : Value) (B0 : Nat) (w : World)
    (hq : w.heap[gq]? = some (.cells #[v] 26 (0, 0))) (hR : Kd.R (Kd.int .u32) 31 w B0 (fun _ => True) v l)
    (hs : w.heap[gs]? = some (.cells #[.int .u32 s] 31 (0, 0))) (hf : w.heap[gf]? = some (.cells #[.int .i64 frm] 3 (0, 0))) 
    (h0 : 0 ≤ frm) (h1 : frm < l.length) (hl : l.length < 35184372088832) (hc : cpuset_Check.f s = some 0) (hs0 : s ≠ 0) (hw : cpuset_Within.f s (rd l frm) = some false) :
    Calls Try.prog 46 #[.pointer (some ⟨gq, 0, none⟩), .pointer (some ⟨gs, 0, none⟩), .pointer (some ⟨gf, 0, none⟩), .pointer (some ⟨gn, 0, none⟩)] w fun e W' => e = .returned (.int .i64 2) ∧ ∃ n, W' = w.drewN n := by
  obtain ⟨go, co, rfl, hgo, hgl, cl, HG⟩ := Kd.R_form hR (by omega)
  have cq : w.cell? ⟨gq, 0, none⟩ = some (.slice (some ⟨go, 0, none⟩) l.length co) := (blk_cell hq 0).trans rfl
  have cs : w.cell? ⟨gs, 0, none⟩ = some (.int .u32 s) := (blk_cell hs 0).trans rfl
  have cf : w.cell? ⟨gf, 0, none⟩ = some (.int .i64 frm) := (blk_cell hf 0).trans rfl
  obtain ⟨ce, fe⟩ := Kd.R_celln 0 hR frm h0 h1
  clear hq hs hf hR HG
  have d4 : decide (0 ≤ frm) = true := decide_eq_true h0
  have d5 : decide (frm < (l.length : Int)) = true := decide_eq_true h1
  have d6 := eq_true h0
  have d7 := eq_true h1
  have HC := Aside0.mk hc
  have HW := Aside0.mk hw
  have d1 : (s == 0) = false := beq_eq_false_iff_ne.mpr hs0
  clear hc hw hs0
  clear h0 h1
  have e : rdOf 0 l frm = rd l frm := rfl
  rw [e] at ce
  clear e
  go_enter Try.func46, Try.ntmps46
  go_wp2_with (first | (go_at_call 38; refine (cpuset_Check.calls s 0 _ HC.out).mono ?_; rintro e w' ⟨rfl, nd, rfl⟩))
  go_quiet (fail)
  go_wp2_with (first | (go_at_call 47; refine (cpuset_Within.calls s _ false _ HW.out).mono ?_; rintro e w' ⟨rfl, nd2, rfl⟩))
  go_ret
  exact ⟨rfl, _, rfl⟩
set_option maxHeartbeats 2000000 in
theorem pool_Split1.all (gq gs gf gn : Nat) (l : List Int) (frm s : Int) (v : Value) (B0 : Nat) (w : World)
    (hq : w.heap[gq]? = some (.cells #[v] 26 (0, 0))) (hR : Kd.R (Kd.int .u32) 31 w B0 (fun _ => True) v l)
    (hs : w.heap[gs]? = some (.cells #[.int .u32 s] 31 (0, 0))) (hf : w.heap[gf]? = some (.cells #[.int .i64 frm] 3 (0, 0))) 
    (h0 : 0 ≤ frm) (h1 : frm < l.length) (hl : l.length < 35184372088832) (hc : cpuset_Check.f s = some 0) (hs0 : s ≠ 0) (hw : cpuset_Within.f s (rd l frm) = some true) (he : s = rd l frm) :
    Calls Try.prog 46 #[.pointer (some ⟨gq, 0, none⟩), .pointer (some ⟨gs, 0, none⟩), .pointer (some ⟨gf, 0, none⟩), .pointer (some ⟨gn, 0, none⟩)] w fun e W' => e = .returned (.int .i64 181) ∧ ∃ n, W' = w.drewN n := by
  obtain ⟨go, co, rfl, hgo, hgl, cl, HG⟩ := Kd.R_form hR (by omega)
  have cq : w.cell? ⟨gq, 0, none⟩ = some (.slice (some ⟨go, 0, none⟩) l.length co) := (blk_cell hq 0).trans rfl
  have cs : w.cell? ⟨gs, 0, none⟩ = some (.int .u32 s) := (blk_cell hs 0).trans rfl
  have cf : w.cell? ⟨gf, 0, none⟩ = some (.int .i64 frm) := (blk_cell hf 0).trans rfl
  obtain ⟨ce, fe⟩ := Kd.R_celln 0 hR frm h0 h1
  clear hq hs hf hR HG
  have d4 : decide (0 ≤ frm) = true := decide_eq_true h0
  have d5 : decide (frm < (l.length : Int)) = true := decide_eq_true h1
  have d6 := eq_true h0
  have d7 := eq_true h1
  have HC := Aside0.mk hc
  have HW := Aside0.mk hw
  have d1 : (s == 0) = false := beq_eq_false_iff_ne.mpr hs0
  have d2 : (s == rd l frm) = true := beq_iff_eq.mpr he
  clear hc hw hs0 he
  clear h0 h1
  have e : rdOf 0 l frm = rd l frm := rfl
  rw [e] at ce
  clear e
  go_enter Try.func46, Try.ntmps46
  go_wp2_with (first | (go_at_call 38; refine (cpuset_Check.calls s 0 _ HC.out).mono ?_; rintro e w' ⟨rfl, nd, rfl⟩))
  go_quiet (fail)
  go_wp2_with (first | (go_at_call 47; refine (cpuset_Within.calls s _ true _ HW.out).mono ?_; rintro e w' ⟨rfl, nd2, rfl⟩))
  go_ret
  exact ⟨rfl, _, rfl⟩
set_option maxHeartbeats 2000000 in
theorem pool_Split1.full (gq gs gf gn : Nat) (l : List Int) (frm s : Int) (v : Value) (B0 : Nat) (w : World)
    (hq : w.heap[gq]? = some (.cells #[v] 26 (0, 0))) (hR : Kd.R (Kd.int .u32) 31 w B0 (fun _ => True) v l)
    (hs : w.heap[gs]? = some (.cells #[.int .u32 s] 31 (0, 0))) (hf : w.heap[gf]? = some (.cells #[.int .i64 frm] 3 (0, 0))) 
    (h0 : 0 ≤ frm) (h1 : frm < l.length) (hl : l.length < 35184372088832) (hc : cpuset_Check.f s = some 0) (hs0 : s ≠ 0) (hw : cpuset_Within.f s (rd l frm) = some true) (he : s ≠ rd l frm) (h4 : l.length = 4) :
    Calls Try.prog 46 #[.pointer (some ⟨gq, 0, none⟩), .pointer (some ⟨gs, 0, none⟩), .pointer (some ⟨gf, 0, none⟩), .pointer (some ⟨gn, 0, none⟩)] w fun e W' => e = .returned (.int .i64 6) ∧ ∃ n, W' = w.drewN n := by
  obtain ⟨go, co, rfl, hgo, hgl, cl, HG⟩ := Kd.R_form hR (by omega)
  have cq : w.cell? ⟨gq, 0, none⟩ = some (.slice (some ⟨go, 0, none⟩) l.length co) := (blk_cell hq 0).trans rfl
  have cs : w.cell? ⟨gs, 0, none⟩ = some (.int .u32 s) := (blk_cell hs 0).trans rfl
  have cf : w.cell? ⟨gf, 0, none⟩ = some (.int .i64 frm) := (blk_cell hf 0).trans rfl
  obtain ⟨ce, fe⟩ := Kd.R_celln 0 hR frm h0 h1
  clear hq hs hf hR HG
  have d4 : decide (0 ≤ frm) = true := decide_eq_true h0
  have d5 : decide (frm < (l.length : Int)) = true := decide_eq_true h1
  have d6 := eq_true h0
  have d7 := eq_true h1
  have HC := Aside0.mk hc
  have HW := Aside0.mk hw
  have d1 : (s == 0) = false := beq_eq_false_iff_ne.mpr hs0
  have d2 : (s == rd l frm) = false := beq_eq_false_iff_ne.mpr he
  have d3 : ((l.length : Int) == 4) = true := beq_iff_eq.mpr (by omega)
  clear hc hw hs0 he h4
  clear h0 h1
  have e : rdOf 0 l frm = rd l frm := rfl
  rw [e] at ce
  clear e
  go_enter Try.func46, Try.ntmps46
  go_wp2_with (first | (go_at_call 38; refine (cpuset_Check.calls s 0 _ HC.out).mono ?_; rintro e w' ⟨rfl, nd, rfl⟩))
  go_quiet (fail)
  go_wp2_with (first | (go_at_call 47; refine (cpuset_Within.calls s _ true _ HW.out).mono ?_; rintro e w' ⟨rfl, nd2, rfl⟩))
  go_ret
  exact ⟨rfl, _, rfl⟩

def splitDo (l : List Int) (frm s : Int) : Option (Int × List Int × Int) :=
  (cpuset_Check.f s).bind fun c => if c ≠ 0 then some (c, [], 0) else if s = 0 then some (2, [], 0) else (cpuset_Within.f s (rd l frm)).bind fun b => if b = false then some (2, [], 0) else if s = rd l frm then some (181, [], 0) else if l.length = 4 then some (6, [], 0) else some (0, l.set frm.toNat (bits .andNot .u32 (rd l frm) s) ++ [s], (l.length : Int))
theorem pool_Split1.any (gq gs gf gn : Nat) (l : List Int) (frm s : Int) (v : Value) (base B0 : Nat) (w : World) (err n : Int) (l' : List Int)
    (hq : w.heap[gq]? = some (.cells #[v] 26 (0, 0))) (hR : Kd.R (Kd.int .u32) 31 w B0 (fun _ => True) v l)
    (hs : w.heap[gs]? = some (.cells #[.int .u32 s] 31 (0, 0))) (hf : w.heap[gf]? = some (.cells #[.int .i64 frm] 3 (0, 0))) (hn : w.heap[gn]? = some (.cells #[.int .i64 0] 3 (0, 0)))
    (h0 : 0 ≤ frm) (h1 : frm < l.length) (hl : l.length < 35184372088832) (hB0 : ∀ g, g = gs ∨ g = gf ∨ g = gn → g < B0) (hfn : gf ≠ gn) (hB0w : B0 ≤ w.heap.size) (hbn : base ≤ gn) (hbB : base ≤ B0) (hBq : B0 ≤ gq)
    (h : splitDo l frm s = some (err, l', n)) :
    Calls Try.prog 46 #[.pointer (some ⟨gq, 0, none⟩), .pointer (some ⟨gs, 0, none⟩), .pointer (some ⟨gf, 0, none⟩), .pointer (some ⟨gn, 0, none⟩)] w fun e W' => e = .returned (.int .i64 err) ∧ Below base w W' ∧ W'.heap[gn]? = some (.cells #[.int .i64 n] 3 (0, 0)) ∧ (∀ k, k < w.heap.size → k ≠ gq → k ≠ gn → some k ≠ v.ownBlock → W'.heap[k]? = w.heap[k]?) ∧ (err = 0 → ∃ v', W'.heap[gq]? = some (.cells #[v'] 26 (0, 0)) ∧ Kd.R (Kd.int .u32) 31 W' B0 (fun _ => True) v' l') := by
  have still : ∀ (er : Int), er ≠ 0 → er = err → 0 = n → ∀ (e : Ending) (W' : World), (e = .returned (.int .i64 er) ∧ ∃ m, W' = w.drewN m) → e = .returned (.int .i64 err) ∧ Below base w W' ∧ W'.heap[gn]? = some (.cells #[.int .i64 n] 3 (0, 0)) ∧ (∀ k, k < w.heap.size → k ≠ gq → k ≠ gn → some k ≠ v.ownBlock → W'.heap[k]? = w.heap[k]?) ∧ (err = 0 → ∃ v', W'.heap[gq]? = some (.cells #[v'] 26 (0, 0)) ∧ Kd.R (Kd.int .u32) 31 W' B0 (fun _ => True) v' l') := by
    rintro er h1 rfl rfl e W' ⟨rfl, m, rfl⟩
    exact ⟨rfl, (pw_below_drewN (Below.refl _ _) m).mono (Nat.le_trans hbB hB0w), blk_drewN hn m, fun _ _ _ _ _ => rfl, fun h => absurd h h1⟩
  unfold splitDo at h
  obtain ⟨c, hc, h⟩ := Option.bind_eq_some_iff.mp h
  by_cases c0 : c = 0
  case neg =>
    rw [if_pos c0] at h
    injection h with h; injection h with e1 h; injection h with e2 e3
    exact (pool_Split1.badset gq gs gf gn l frm s v B0 w hq hR hs hf h0 h1 hl c hc c0).mono (fun e W' => still c c0 e1 e3 e W')
  subst c0
  rw [if_neg (by simp)] at h
  by_cases s0 : s = 0
  · rw [if_pos s0] at h
    injection h with h; injection h with e1 h; injection h with e2 e3
    exact (pool_Split1.empty gq gs gf gn l frm s v B0 w hq hR hs hf h0 h1 hl hc s0).mono (fun e W' => still 2 (by decide) e1 e3 e W')
  rw [if_neg s0] at h
  obtain ⟨b, hb, h⟩ := Option.bind_eq_some_iff.mp h
  cases b
  · rw [if_pos rfl] at h
    injection h with h; injection h with e1 h; injection h with e2 e3
    exact (pool_Split1.outside gq gs gf gn l frm s v B0 w hq hR hs hf h0 h1 hl hc s0 hb).mono (fun e W' => still 2 (by decide) e1 e3 e W')
  rw [if_neg (by simp)] at h
  by_cases so : s = rd l frm
  · rw [if_pos so] at h
    injection h with h; injection h with e1 h; injection h with e2 e3
    exact (pool_Split1.all gq gs gf gn l frm s v B0 w hq hR hs hf h0 h1 hl hc s0 hb so).mono (fun e W' => still 181 (by decide) e1 e3 e W')
  rw [if_neg so] at h
  by_cases l4 : l.length = 4
  · rw [if_pos l4] at h
    injection h with h; injection h with e1 h; injection h with e2 e3
    exact (pool_Split1.full gq gs gf gn l frm s v B0 w hq hR hs hf h0 h1 hl hc s0 hb so l4).mono (fun e W' => still 6 (by decide) e1 e3 e W')
  rw [if_neg l4] at h
  injection h with h; injection h with e1 h; injection h with e2 e3
  subst e1 e2 e3
  refine (pool_Split1.ok gq gs gf gn l frm s v base B0 w hq hR hs hf hn h0 h1 hl hB0 hfn hB0w hbn hbB hBq hc s0 hb so l4).mono ?_
  rintro e W' ⟨rfl, a1, a2, a3, a4⟩
  exact ⟨rfl, a1, a2, a3, fun _ => a4⟩
set_option maxHeartbeats 4000000 in
theorem pool_Split.does (k : Nat) (ad : Addr) (c0 : Nat) (l : List Int) (frm s err n : Int) (l' : List Int) (w : World) (hr : Kd.C (Kd.int .u32) w (some ad) l.length l) (hc : l.length ≤ c0) (hl : l.length < 35184372088832)
    (hec : pool_Check.f k l = some 0) (hp : pool_pool.f l [frm] = some true) (h0 : 0 ≤ frm) (h1 : frm < l.length) (hs : splitDo l frm s = some (err, l', n)) (L : List Int) (hL : L = if err = 0 then l' else []) :
    Calls Try.prog 29 #[.agg #[.slice (some ad) l.length c0], .int .i64 frm, .int .u32 s] w fun e w' => ∃ v0_ : Value, e = .returned (.tuple #[.agg #[v0_], .int .i64 n, .int .i64 err]) ∧ Kd.R (Kd.int .u32) 31 w' w.heap.size (fun _ => True) v0_ L ∧ Below w.heap.size w w' := by
  have HLL := Aside0.mk hL
  clear hL
  have HR := Aside0.mk hr
  have HC := Aside0.mk hc
  have HE := Aside0.mk hec
  have HP := Aside0.mk hp
  have HL := Aside0.mk hl
  have HS := Aside0.mk hs
  have H0 := Aside0.mk h0
  have H1 := Aside0.mk h1
  have EG := Aside0.mk (enters_ Try.func46 (by kernel_rfl) rfl)
  clear hr hc hec hp hl hs h0 h1
  have HB := Aside0.mk (Below.refl w.heap.size w)
  go_enter Try.func29, Try.ntmps29
  go_wp2_with (first
    | ((with_reducible refine gate_dst (N := 3) rfl ?_); refine box_event ?hg (N := 3) ?hd (cs := #[.slice (some ad) l.length c0]) (t := 26) ?hr ?_; (case hd => rfl); (case hg => rfl); (case hr => first | (go_simp; done) | (go_simp; rfl)); intro gbp hg wbp hbox hb; have m0_ := Aside0.mk (below_step HB.out hb); have m1_ := Aside0.mk (hbox); have m2_ := Aside0.mk ((by rw [hg]; exact HB.out.size : w.heap.size ≤ gbp)); (try clear HB); have HB := m0_; have BKp := m1_; have GEp := m2_; clear m0_ m1_ m2_; clear hb hbox hg)
    | ((with_reducible refine gate_dst (N := 4) rfl ?_); refine box_event ?hg (N := 4) ?hd (cs := #[.int .i64 frm]) (t := 3) ?hr ?_; (case hd => rfl); (case hg => rfl); (case hr => first | (go_simp; done) | (go_simp; rfl)); intro gbf hg wbf hbox hb; have m0_ := Aside0.mk (blk_below (g := gbp) (o := .cells #[.slice (some ad) l.length c0] 26 (0, 0)) BKp.out hb); have m1_ := Aside0.mk (below_step HB.out hb); have m2_ := Aside0.mk (hbox); have m3_ := Aside0.mk ((by rw [hg]; exact HB.out.size : w.heap.size ≤ gbf)); have m4_ := Aside0.mk ((by rw [hg]; exact Nat.ne_of_lt (blk_lt BKp.out) : gbp ≠ gbf)); have m5_ := Aside0.mk ((by rw [hg]; exact Nat.ne_of_gt (blk_lt BKp.out) : gbf ≠ gbp)); (try clear BKp); (try clear HB); have BKp := m0_; have HB := m1_; have BKf := m2_; have GEf := m3_; have NBp_f := m4_; have NBf_p := m5_; clear m0_ m1_ m2_ m3_ m4_ m5_; clear hb hbox hg)
    | ((with_reducible refine gate_dst (N := 5) rfl ?_); refine box_event ?hg (N := 5) ?hd (cs := #[.int .u32 s]) (t := 31) ?hr ?_; (case hd => rfl); (case hg => rfl); (case hr => first | (go_simp; done) | (go_simp; rfl)); intro gbs hg wbs hbox hb; have m0_ := Aside0.mk (blk_below (g := gbp) (o := .cells #[.slice (some ad) l.length c0] 26 (0, 0)) BKp.out hb); have m1_ := Aside0.mk (blk_below (g := gbf) (o := .cells #[.int .i64 frm] 3 (0, 0)) BKf.out hb); have m2_ := Aside0.mk (below_step HB.out hb); have m3_ := Aside0.mk (hbox); have m4_ := Aside0.mk ((by rw [hg]; exact HB.out.size : w.heap.size ≤ gbs)); have m5_ := Aside0.mk ((by rw [hg]; exact Nat.ne_of_lt (blk_lt BKp.out) : gbp ≠ gbs)); have m6_ := Aside0.mk ((by rw [hg]; exact Nat.ne_of_gt (blk_lt BKp.out) : gbs ≠ gbp)); have m7_ := Aside0.mk ((by rw [hg]; exact Nat.ne_of_lt (blk_lt BKf.out) : gbf ≠ gbs)); have m8_ := Aside0.mk ((by rw [hg]; exact Nat.ne_of_gt (blk_lt BKf.out) : gbs ≠ gbf)); (try clear BKp); (try clear BKf); (try clear HB); have BKp := m0_; have BKf := m1_; have HB := m2_; have BKs := m3_; have GEs := m4_; have NBp_s := m5_; have NBs_p := m6_; have NBf_s := m7_; have NBs_f := m8_; clear m0_ m1_ m2_ m3_ m4_ m5_ m6_ m7_ m8_; clear hb hbox hg)
    | ((with_reducible refine gate_dst (N := 6) rfl ?_); refine box_event ?hg (N := 6) ?hd (cs := #[.slice none 0 0]) (t := 26) ?hr ?_; (case hd => rfl); (case hg => rfl); (case hr => first | (go_simp; done) | (go_simp; rfl)); intro gbq hg wbq hbox hb; have m0_ := Aside0.mk (blk_below (g := gbp) (o := .cells #[.slice (some ad) l.length c0] 26 (0, 0)) BKp.out hb); have m1_ := Aside0.mk (blk_below (g := gbf) (o := .cells #[.int .i64 frm] 3 (0, 0)) BKf.out hb); have m2_ := Aside0.mk (blk_below (g := gbs) (o := .cells #[.int .u32 s] 31 (0, 0)) BKs.out hb); have m3_ := Aside0.mk (below_step HB.out hb); have m4_ := Aside0.mk (hbox); have m5_ := Aside0.mk ((by rw [hg]; exact HB.out.size : w.heap.size ≤ gbq)); have m6_ := Aside0.mk ((by rw [hg]; exact Nat.ne_of_lt (blk_lt BKp.out) : gbp ≠ gbq)); have m7_ := Aside0.mk ((by rw [hg]; exact Nat.ne_of_gt (blk_lt BKp.out) : gbq ≠ gbp)); have m8_ := Aside0.mk ((by rw [hg]; exact Nat.ne_of_lt (blk_lt BKf.out) : gbf ≠ gbq)); have m9_ := Aside0.mk ((by rw [hg]; exact Nat.ne_of_gt (blk_lt BKf.out) : gbq ≠ gbf)); have m10_ := Aside0.mk ((by rw [hg]; exact Nat.ne_of_lt (blk_lt BKs.out) : gbs ≠ gbq)); have m11_ := Aside0.mk ((by rw [hg]; exact Nat.ne_of_gt (blk_lt BKs.out) : gbq ≠ gbs)); (try clear BKp); (try clear BKf); (try clear BKs); (try clear HB); have BKp := m0_; have BKf := m1_; have BKs := m2_; have HB := m3_; have BKq := m4_; have GEq := m5_; have NBp_q := m6_; have NBq_p := m7_; have NBf_q := m8_; have NBq_f := m9_; have NBs_q := m10_; have NBq_s := m11_; clear m0_ m1_ m2_ m3_ m4_ m5_ m6_ m7_ m8_ m9_ m10_ m11_; clear hb hbox hg)
    | ((with_reducible refine gate_dst (N := 9) rfl ?_); refine box_event ?hg (N := 9) ?hd (cs := #[.int .i64 0]) (t := 3) ?hr ?_; (case hd => rfl); (case hg => rfl); (case hr => first | (go_simp; done) | (go_simp; rfl)); intro gbn hg wbn hbox hb; have m0_ := Aside0.mk (blk_below (g := gbp) (o := .cells #[.slice (some ad) l.length c0] 26 (0, 0)) BKp.out hb); have m1_ := Aside0.mk (blk_below (g := gbf) (o := .cells #[.int .i64 frm] 3 (0, 0)) BKf.out hb); have m2_ := Aside0.mk (blk_below (g := gbs) (o := .cells #[.int .u32 s] 31 (0, 0)) BKs.out hb); have m3_ := Aside0.mk (blk_below (g := gbq) (o := .cells #[.slice none 0 0] 26 (0, 0)) BKq.out hb); have m4_ := Aside0.mk (below_step HB.out hb); have m5_ := Aside0.mk (hbox); have m6_ := Aside0.mk ((by rw [hg]; exact HB.out.size : w.heap.size ≤ gbn)); have m7_ := Aside0.mk ((by rw [hg]; exact Nat.ne_of_lt (blk_lt BKp.out) : gbp ≠ gbn)); have m8_ := Aside0.mk ((by rw [hg]; exact Nat.ne_of_gt (blk_lt BKp.out) : gbn ≠ gbp)); have m9_ := Aside0.mk ((by rw [hg]; exact Nat.ne_of_lt (blk_lt BKf.out) : gbf ≠ gbn)); have m10_ := Aside0.mk ((by rw [hg]; exact Nat.ne_of_gt (blk_lt BKf.out) : gbn ≠ gbf)); have m11_ := Aside0.mk ((by rw [hg]; exact Nat.ne_of_lt (blk_lt BKs.out) : gbs ≠ gbn)); have m12_ := Aside0.mk ((by rw [hg]; exact Nat.ne_of_gt (blk_lt BKs.out) : gbn ≠ gbs)); have m13_ := Aside0.mk ((by rw [hg]; exact Nat.ne_of_lt (blk_lt BKq.out) : gbq ≠ gbn)); have m14_ := Aside0.mk ((by rw [hg]; exact Nat.ne_of_gt (blk_lt BKq.out) : gbn ≠ gbq)); (try clear BKp); (try clear BKf); (try clear BKs); (try clear BKq); (try clear HB); have BKp := m0_; have BKf := m1_; have BKs := m2_; have BKq := m3_; have HB := m4_; have BKn := m5_; have GEn := m6_; have NBp_n := m7_; have NBn_p := m8_; have NBf_n := m9_; have NBn_f := m10_; have NBs_n := m11_; have NBn_s := m12_; have NBq_n := m13_; have NBn_q := m14_; clear m0_ m1_ m2_ m3_ m4_ m5_ m6_ m7_ m8_ m9_ m10_ m11_ m12_ m13_ m14_; clear hb hbox hg; have hcz1_n_0 : World.cell? _ ⟨gbn, 0, none⟩ = some (.int .i64 0) := (blk_cell BKn.out 0).trans rfl; have hfz1_n := blk_frozen BKn.out 0)
    | ((with_reducible refine gate_store (t := 3) (p := 9) rfl ?_); refine store_event (t := 3) (p := 9) (v := ?vo_ws2) (w1 := (wbn.setCell ⟨gbn, 0, none⟩ (.int .i64 0))) ?hg ?ho ?hn ?hr ?_; (case ho => rfl); (case hg => rfl); (case hn => rfl); (case hr => first | (go_simp; done) | (go_simp; rfl)); intro ws2 hw; have m0_ := Aside0.mk ((show ws2.heap[gbp]? = some (.cells #[.slice (some ad) l.length c0] 26 (0, 0)) by rw [hw]; exact blk_far BKp.out (p := ⟨gbn, 0, none⟩) NBp_n.out _)); have m1_ := Aside0.mk ((show ws2.heap[gbf]? = some (.cells #[.int .i64 frm] 3 (0, 0)) by rw [hw]; exact blk_far BKf.out (p := ⟨gbn, 0, none⟩) NBf_n.out _)); have m2_ := Aside0.mk ((show ws2.heap[gbs]? = some (.cells #[.int .u32 s] 31 (0, 0)) by rw [hw]; exact blk_far BKs.out (p := ⟨gbn, 0, none⟩) NBs_n.out _)); have m3_ := Aside0.mk ((show ws2.heap[gbq]? = some (.cells #[.slice none 0 0] 26 (0, 0)) by rw [hw]; exact blk_far BKq.out (p := ⟨gbn, 0, none⟩) NBq_n.out _)); have m4_ := Aside0.mk ((show ws2.heap[gbn]? = some (.cells #[.int .i64 0] 3 (0, 0)) by rw [hw]; exact blk_put (cs := #[.int .i64 0]) BKn.out 0 _ rfl)); have m5_ := Aside0.mk ((show Below w.heap.size w ws2 by rw [hw]; exact below_set HB.out GEn.out)); clear hw; clear BKp; clear BKf; clear BKs; clear BKq; clear BKn; clear HB; have BKp := m0_; have BKf := m1_; have BKs := m2_; have BKq := m3_; have BKn := m4_; have HB := m5_; clear m0_ m1_ m2_ m3_ m4_ m5_; have hcz3_p_0 : World.cell? _ ⟨gbp, 0, none⟩ = some (.slice (some ad) l.length c0) := (blk_cell BKp.out 0).trans rfl; have hfz3_p := blk_frozen BKp.out 0; have hcz3_f_0 : World.cell? _ ⟨gbf, 0, none⟩ = some (.int .i64 frm) := (blk_cell BKf.out 0).trans rfl; have hfz3_f := blk_frozen BKf.out 0)
    | ((with_reducible refine gate_dst (N := 16) rfl ?_); refine Kd.R_lit (Kd.int .i64) _ 3 ?hg (N := 16) ?hd (xs := ([frm] : List Int)) (inner := [.int .i64 frm]) (ok := fun _ => True) (okp := fun _ => True) ?hr ?hp (fun _ hk => hk) trivial (Below.refl _ _) (Nat.le_refl _) (by simp) ?_; (case hd => rfl); (case hg => rfl); (case hr => first | (go_simp; done) | (go_simp; rfl)); (case hp => exact (Reps.one (show Kd.M (Kd.int .i64) _ _ _ frm [.int .i64 frm] from rfl) (Reps.none _ _))); intro vns wl4 ho_ hb hg_ hnew_; clear hg_ hnew_; have m0_ := Aside0.mk (blk_below (g := gbp) (o := .cells #[.slice (some ad) l.length c0] 26 (0, 0)) BKp.out hb); have m1_ := Aside0.mk (blk_below (g := gbf) (o := .cells #[.int .i64 frm] 3 (0, 0)) BKf.out hb); have m2_ := Aside0.mk (blk_below (g := gbs) (o := .cells #[.int .u32 s] 31 (0, 0)) BKs.out hb); have m3_ := Aside0.mk (blk_below (g := gbq) (o := .cells #[.slice none 0 0] 26 (0, 0)) BKq.out hb); have m4_ := Aside0.mk (blk_below (g := gbn) (o := .cells #[.int .i64 0] 3 (0, 0)) BKn.out hb); have m5_ := Aside0.mk (below_step HB.out hb); have m6_ := Aside0.mk (Kd.R_lower ho_ HB.out.size); (try clear BKp); (try clear BKf); (try clear BKs); (try clear BKq); (try clear BKn); (try clear HB); have BKp := m0_; have BKf := m1_; have BKs := m2_; have BKq := m3_; have BKn := m4_; have HB := m5_; have HOns := m6_; clear m0_ m1_ m2_ m3_ m4_ m5_ m6_; clear hb ho_; obtain ⟨Ans, cns, ens⟩ := Kd.R_slice HOns.out; subst ens)
    | (go_at_call 45; go_must (refine (pool_with.does 46 #[.pointer (some ⟨gbs, 0, none⟩), .pointer (some ⟨gbf, 0, none⟩), .pointer (some ⟨gbn, 0, none⟩)] EG.out w.heap.size (fun k_ => k_ = gbn) k ad c0 l _ _ [frm] _ ?s1 HC.out ?s2 ?s3 HB.out.size ?s4 HE.out HP.out HL.out err l' (fun W_ => W_.heap[gbn]? = some (.cells #[.int .i64 n] 3 (0, 0))) ?s5 ?s6).mono ?_); go_must ((case s1 => exact Kd.C_below HR.out HB.out)); go_must ((case s2 => exact (Kd.R_reads' HOns.out).2.2)); go_must ((case s3 => exact (Kd.R_reads' HOns.out).2.1)); go_must ((case s4 => exact fun k_ e_ => e_ ▸ blk_lt BKn.out)); go_must ((case s5 => exact fun W_ W2_ h1_ h2_ => (h2_ gbn rfl).trans h1_)); go_must ((case s6 => exact fun W_ gq_ v_ b_ q_ bq_ r_ => pool_Split1.any gq_ gbs gbf gbn l frm s v_ w.heap.size _ W_ err n l' bq_ r_ (blk_below BKs.out b_) (blk_below BKf.out b_) (blk_below BKn.out b_) H0.out H1.out HL.out (fun g_ h_ => by rcases h_ with rfl | rfl | rfl; exact blk_lt BKs.out; exact blk_lt BKf.out; exact blk_lt BKn.out) NBf_n.out b_.size GEn.out HB.out.size q_ HS.out)); go_must (rintro e wr ⟨v, rfl, ho_, hbl_, hj_, hk_⟩); go_must (rw [← HLL.out] at ho_); go_must (clear HOns); go_must (clear hcz3_p_0 hfz3_p hcz3_f_0 hfz3_f); go_must (have m0_ := Aside0.mk ((hk_ gbp (blk_lt BKp.out) NBp_n.out).trans BKp.out)); go_must (have m1_ := Aside0.mk ((hk_ gbf (blk_lt BKf.out) NBf_n.out).trans BKf.out)); go_must (have m2_ := Aside0.mk ((hk_ gbs (blk_lt BKs.out) NBs_n.out).trans BKs.out)); go_must (have m3_ := Aside0.mk ((hk_ gbq (blk_lt BKq.out) NBq_n.out).trans BKq.out)); go_must (have m4_ := Aside0.mk (hj_)); go_must (have m5_ := Aside0.mk (HB.out.trans hbl_)); go_must (have m6_ := Aside0.mk (Kd.R_lower ho_ HB.out.size)); go_must ((try clear BKp)); go_must ((try clear BKf)); go_must ((try clear BKs)); go_must ((try clear BKq)); go_must ((try clear BKn)); go_must ((try clear HB)); go_must (have BKp := m0_); go_must (have BKf := m1_); go_must (have BKs := m2_); go_must (have BKq := m3_); go_must (have BKn := m4_); go_must (have HB := m5_); go_must (have HOv := m6_); go_must (clear m0_ m1_ m2_ m3_ m4_ m5_ m6_); go_must (clear ho_ hbl_ hj_ hk_); go_must (obtain ⟨Av, cv, ev⟩ := Kd.R_slice HOv.out); go_must (subst ev))
    | ((with_reducible refine gate_dst (N := 10) rfl ?_); refine box_event ?hg (N := 10) ?hd (cs := #[.slice none 0 0]) (t := 26) ?hr ?_; (case hd => rfl); (case hg => rfl); (case hr => first | (go_simp; done) | (go_simp; rfl)); intro gbt hg wbt hbox hb; have m0_ := Aside0.mk (blk_below (g := gbp) (o := .cells #[.slice (some ad) l.length c0] 26 (0, 0)) BKp.out hb); have m1_ := Aside0.mk (blk_below (g := gbf) (o := .cells #[.int .i64 frm] 3 (0, 0)) BKf.out hb); have m2_ := Aside0.mk (blk_below (g := gbs) (o := .cells #[.int .u32 s] 31 (0, 0)) BKs.out hb); have m3_ := Aside0.mk (blk_below (g := gbq) (o := .cells #[.slice none 0 0] 26 (0, 0)) BKq.out hb); have m4_ := Aside0.mk (blk_below (g := gbn) (o := .cells #[.int .i64 n] 3 (0, 0)) BKn.out hb); have m5_ := Aside0.mk (Kd.R_below HOv.out hb); have m6_ := Aside0.mk (below_step HB.out hb); have m7_ := Aside0.mk (hbox); have m8_ := Aside0.mk ((by rw [hg]; exact HB.out.size : w.heap.size ≤ gbt)); have m9_ := Aside0.mk ((by rw [hg]; exact Nat.ne_of_lt (blk_lt BKp.out) : gbp ≠ gbt)); have m10_ := Aside0.mk ((by rw [hg]; exact Nat.ne_of_gt (blk_lt BKp.out) : gbt ≠ gbp)); have m11_ := Aside0.mk ((by rw [hg]; exact Nat.ne_of_lt (blk_lt BKf.out) : gbf ≠ gbt)); have m12_ := Aside0.mk ((by rw [hg]; exact Nat.ne_of_gt (blk_lt BKf.out) : gbt ≠ gbf)); have m13_ := Aside0.mk ((by rw [hg]; exact Nat.ne_of_lt (blk_lt BKs.out) : gbs ≠ gbt)); have m14_ := Aside0.mk ((by rw [hg]; exact Nat.ne_of_gt (blk_lt BKs.out) : gbt ≠ gbs)); have m15_ := Aside0.mk ((by rw [hg]; exact Nat.ne_of_lt (blk_lt BKq.out) : gbq ≠ gbt)); have m16_ := Aside0.mk ((by rw [hg]; exact Nat.ne_of_gt (blk_lt BKq.out) : gbt ≠ gbq)); have m17_ := Aside0.mk ((by rw [hg]; exact Nat.ne_of_lt (blk_lt BKn.out) : gbn ≠ gbt)); have m18_ := Aside0.mk ((by rw [hg]; exact Nat.ne_of_gt (blk_lt BKn.out) : gbt ≠ gbn)); (try clear BKp); (try clear BKf); (try clear BKs); (try clear BKq); (try clear BKn); (try clear HOv); (try clear HB); have BKp := m0_; have BKf := m1_; have BKs := m2_; have BKq := m3_; have BKn := m4_; have HOv := m5_; have HB := m6_; have BKt := m7_; have GEt := m8_; have NBp_t := m9_; have NBt_p := m10_; have NBf_t := m11_; have NBt_f := m12_; have NBs_t := m13_; have NBt_s := m14_; have NBq_t := m15_; have NBt_q := m16_; have NBn_t := m17_; have NBt_n := m18_; clear m0_ m1_ m2_ m3_ m4_ m5_ m6_ m7_ m8_ m9_ m10_ m11_ m12_ m13_ m14_ m15_ m16_ m17_ m18_; clear hb hbox hg; have hcz5_t_0 : World.cell? _ ⟨gbt, 0, none⟩ = some (.slice none 0 0) := (blk_cell BKt.out 0).trans rfl; have hfz5_t := blk_frozen BKt.out 0)
    | ((with_reducible refine gate_store (t := 26) (p := 10) rfl ?_); refine store_event (t := 26) (p := 10) (v := ?vo_ws6) (w1 := (wbt.setCell ⟨gbt, 0, none⟩ (.slice Av (L).length cv))) ?hg ?ho ?hn ?hr ?_; (case ho => rfl); (case hg => rfl); (case hn => rfl); (case hr => first | (go_simp; done) | (go_simp; rfl)); intro ws6 hw; have m0_ := Aside0.mk ((show ws6.heap[gbp]? = some (.cells #[.slice (some ad) l.length c0] 26 (0, 0)) by rw [hw]; exact blk_far BKp.out (p := ⟨gbt, 0, none⟩) NBp_t.out _)); have m1_ := Aside0.mk ((show ws6.heap[gbf]? = some (.cells #[.int .i64 frm] 3 (0, 0)) by rw [hw]; exact blk_far BKf.out (p := ⟨gbt, 0, none⟩) NBf_t.out _)); have m2_ := Aside0.mk ((show ws6.heap[gbs]? = some (.cells #[.int .u32 s] 31 (0, 0)) by rw [hw]; exact blk_far BKs.out (p := ⟨gbt, 0, none⟩) NBs_t.out _)); have m3_ := Aside0.mk ((show ws6.heap[gbq]? = some (.cells #[.slice none 0 0] 26 (0, 0)) by rw [hw]; exact blk_far BKq.out (p := ⟨gbt, 0, none⟩) NBq_t.out _)); have m4_ := Aside0.mk ((show ws6.heap[gbn]? = some (.cells #[.int .i64 n] 3 (0, 0)) by rw [hw]; exact blk_far BKn.out (p := ⟨gbt, 0, none⟩) NBn_t.out _)); have m5_ := Aside0.mk ((show ws6.heap[gbt]? = some (.cells #[.slice Av (L).length cv] 26 (0, 0)) by rw [hw]; exact blk_put (cs := #[.slice none 0 0]) BKt.out 0 _ rfl)); have m6_ := Aside0.mk ((show Kd.R (Kd.int .u32) 31 ws6 w.heap.size (fun _ => True) (.slice Av (L).length cv) L by rw [hw]; exact Kd.R_set HOv.out BKt.out (by decide) 0 _)); have m7_ := Aside0.mk ((show Below w.heap.size w ws6 by rw [hw]; exact below_set HB.out GEt.out)); clear hw; clear BKp; clear BKf; clear BKs; clear BKq; clear BKn; clear BKt; clear HOv; clear HB; have BKp := m0_; have BKf := m1_; have BKs := m2_; have BKq := m3_; have BKn := m4_; have BKt := m5_; have HOv := m6_; have HB := m7_; clear m0_ m1_ m2_ m3_ m4_ m5_ m6_ m7_; have hcz7_t_0 : World.cell? _ ⟨gbt, 0, none⟩ = some (.slice Av (L).length cv) := (blk_cell BKt.out 0).trans rfl; have hfz7_t := blk_frozen BKt.out 0; have hcz7_n_0 : World.cell? _ ⟨gbn, 0, none⟩ = some (.int .i64 n) := (blk_cell BKn.out 0).trans rfl; have hfz7_n := blk_frozen BKn.out 0; have hcz7_q_0 : World.cell? _ ⟨gbq, 0, none⟩ = some (.slice none 0 0) := (blk_cell BKq.out 0).trans rfl; have hfz7_q := blk_frozen BKq.out 0; have hne1_ := NBt_q.out; have hne2_ := NBq_t.out; have hne3_ := NBn_q.out; have hne4_ := NBq_n.out))
  go_region
  go_wp2
  refine bodyPost_ret (results_ctt rfl _ _ gbq 26 #[.slice Av (L).length cv] (0, 0) _ rfl (blk_put (cs := #[.slice none 0 0]) (blk_drew BKq.out) 0 _ rfl) Try.underlying26 rfl (by kernel_rfl)) rfl ?_
  exact ⟨_, rfl, Kd.R_set (Kd.R_drew HOv.out) (blk_drew BKq.out) (by decide) 0 _, (HB.out.drew).setCell GEq.out _⟩
set_option maxHeartbeats 4000000 in
theorem pool_Split.bad (k : Nat) (A0 : Option Addr) (c0 : Nat) (l : List Int) (frm s : Int) (w : World) (hr : Kd.C (Kd.int .u32) w A0 l.length l) (hc : l.length ≤ c0) (e1 : Int) (hec : pool_Check.f k l = some e1) (hp : e1 ≠ 0) :
    Calls Try.prog 29 #[.agg #[.slice A0 l.length c0], .int .i64 frm, .int .u32 s] w fun e w' => ∃ v0_ : Value, e = .returned (.tuple #[.agg #[v0_], .int .i64 0, .int .i64 e1]) ∧ Kd.R (Kd.int .u32) 31 w' w.heap.size (fun _ => True) v0_ [] ∧ Below w.heap.size w w' := by
  have HR := Aside0.mk hr
  have HC := Aside0.mk hc
  have HE := Aside0.mk hec
  have HP := Aside0.mk hp
  clear hr hc hec hp
  have HB := Aside0.mk (Below.refl w.heap.size w)
  go_enter Try.func29, Try.ntmps29
  go_wp2_with (first
    | ((with_reducible refine gate_dst (N := 3) rfl ?_); refine box_event ?hg (N := 3) ?hd (cs := #[.slice A0 l.length c0]) (t := 26) ?hr ?_; (case hd => rfl); (case hg => rfl); (case hr => first | (go_simp; done) | (go_simp; rfl)); intro gbp hg wbp hbox hb; have m0_ := Aside0.mk (below_step HB.out hb); have m1_ := Aside0.mk (hbox); have m2_ := Aside0.mk ((by rw [hg]; exact HB.out.size : w.heap.size ≤ gbp)); (try clear HB); have HB := m0_; have BKp := m1_; have GEp := m2_; clear m0_ m1_ m2_; clear hb hbox hg)
    | ((with_reducible refine gate_dst (N := 4) rfl ?_); refine box_event ?hg (N := 4) ?hd (cs := #[.int .i64 frm]) (t := 3) ?hr ?_; (case hd => rfl); (case hg => rfl); (case hr => first | (go_simp; done) | (go_simp; rfl)); intro gbf hg wbf hbox hb; have m0_ := Aside0.mk (blk_below (g := gbp) (o := .cells #[.slice A0 l.length c0] 26 (0, 0)) BKp.out hb); have m1_ := Aside0.mk (below_step HB.out hb); have m2_ := Aside0.mk (hbox); have m3_ := Aside0.mk ((by rw [hg]; exact HB.out.size : w.heap.size ≤ gbf)); have m4_ := Aside0.mk ((by rw [hg]; exact Nat.ne_of_lt (blk_lt BKp.out) : gbp ≠ gbf)); have m5_ := Aside0.mk ((by rw [hg]; exact Nat.ne_of_gt (blk_lt BKp.out) : gbf ≠ gbp)); (try clear BKp); (try clear HB); have BKp := m0_; have HB := m1_; have BKf := m2_; have GEf := m3_; have NBp_f := m4_; have NBf_p := m5_; clear m0_ m1_ m2_ m3_ m4_ m5_; clear hb hbox hg)
    | ((with_reducible refine gate_dst (N := 5) rfl ?_); refine box_event ?hg (N := 5) ?hd (cs := #[.int .u32 s]) (t := 31) ?hr ?_; (case hd => rfl); (case hg => rfl); (case hr => first | (go_simp; done) | (go_simp; rfl)); intro gbs hg wbs hbox hb; have m0_ := Aside0.mk (blk_below (g := gbp) (o := .cells #[.slice A0 l.length c0] 26 (0, 0)) BKp.out hb); have m1_ := Aside0.mk (blk_below (g := gbf) (o := .cells #[.int .i64 frm] 3 (0, 0)) BKf.out hb); have m2_ := Aside0.mk (below_step HB.out hb); have m3_ := Aside0.mk (hbox); have m4_ := Aside0.mk ((by rw [hg]; exact HB.out.size : w.heap.size ≤ gbs)); have m5_ := Aside0.mk ((by rw [hg]; exact Nat.ne_of_lt (blk_lt BKp.out) : gbp ≠ gbs)); have m6_ := Aside0.mk ((by rw [hg]; exact Nat.ne_of_gt (blk_lt BKp.out) : gbs ≠ gbp)); have m7_ := Aside0.mk ((by rw [hg]; exact Nat.ne_of_lt (blk_lt BKf.out) : gbf ≠ gbs)); have m8_ := Aside0.mk ((by rw [hg]; exact Nat.ne_of_gt (blk_lt BKf.out) : gbs ≠ gbf)); (try clear BKp); (try clear BKf); (try clear HB); have BKp := m0_; have BKf := m1_; have HB := m2_; have BKs := m3_; have GEs := m4_; have NBp_s := m5_; have NBs_p := m6_; have NBf_s := m7_; have NBs_f := m8_; clear m0_ m1_ m2_ m3_ m4_ m5_ m6_ m7_ m8_; clear hb hbox hg)
    | ((with_reducible refine gate_dst (N := 6) rfl ?_); refine box_event ?hg (N := 6) ?hd (cs := #[.slice none 0 0]) (t := 26) ?hr ?_; (case hd => rfl); (case hg => rfl); (case hr => first | (go_simp; done) | (go_simp; rfl)); intro gbq hg wbq hbox hb; have m0_ := Aside0.mk (blk_below (g := gbp) (o := .cells #[.slice A0 l.length c0] 26 (0, 0)) BKp.out hb); have m1_ := Aside0.mk (blk_below (g := gbf) (o := .cells #[.int .i64 frm] 3 (0, 0)) BKf.out hb); have m2_ := Aside0.mk (blk_below (g := gbs) (o := .cells #[.int .u32 s] 31 (0, 0)) BKs.out hb); have m3_ := Aside0.mk (below_step HB.out hb); have m4_ := Aside0.mk (hbox); have m5_ := Aside0.mk ((by rw [hg]; exact HB.out.size : w.heap.size ≤ gbq)); have m6_ := Aside0.mk ((by rw [hg]; exact Nat.ne_of_lt (blk_lt BKp.out) : gbp ≠ gbq)); have m7_ := Aside0.mk ((by rw [hg]; exact Nat.ne_of_gt (blk_lt BKp.out) : gbq ≠ gbp)); have m8_ := Aside0.mk ((by rw [hg]; exact Nat.ne_of_lt (blk_lt BKf.out) : gbf ≠ gbq)); have m9_ := Aside0.mk ((by rw [hg]; exact Nat.ne_of_gt (blk_lt BKf.out) : gbq ≠ gbf)); have m10_ := Aside0.mk ((by rw [hg]; exact Nat.ne_of_lt (blk_lt BKs.out) : gbs ≠ gbq)); have m11_ := Aside0.mk ((by rw [hg]; exact Nat.ne_of_gt (blk_lt BKs.out) : gbq ≠ gbs)); (try clear BKp); (try clear BKf); (try clear BKs); (try clear HB); have BKp := m0_; have BKf := m1_; have BKs := m2_; have HB := m3_; have BKq := m4_; have GEq := m5_; have NBp_q := m6_; have NBq_p := m7_; have NBf_q := m8_; have NBq_f := m9_; have NBs_q := m10_; have NBq_s := m11_; clear m0_ m1_ m2_ m3_ m4_ m5_ m6_ m7_ m8_ m9_ m10_ m11_; clear hb hbox hg)
    | ((with_reducible refine gate_dst (N := 9) rfl ?_); refine box_event ?hg (N := 9) ?hd (cs := #[.int .i64 0]) (t := 3) ?hr ?_; (case hd => rfl); (case hg => rfl); (case hr => first | (go_simp; done) | (go_simp; rfl)); intro gbn hg wbn hbox hb; have m0_ := Aside0.mk (blk_below (g := gbp) (o := .cells #[.slice A0 l.length c0] 26 (0, 0)) BKp.out hb); have m1_ := Aside0.mk (blk_below (g := gbf) (o := .cells #[.int .i64 frm] 3 (0, 0)) BKf.out hb); have m2_ := Aside0.mk (blk_below (g := gbs) (o := .cells #[.int .u32 s] 31 (0, 0)) BKs.out hb); have m3_ := Aside0.mk (blk_below (g := gbq) (o := .cells #[.slice none 0 0] 26 (0, 0)) BKq.out hb); have m4_ := Aside0.mk (below_step HB.out hb); have m5_ := Aside0.mk (hbox); have m6_ := Aside0.mk ((by rw [hg]; exact HB.out.size : w.heap.size ≤ gbn)); have m7_ := Aside0.mk ((by rw [hg]; exact Nat.ne_of_lt (blk_lt BKp.out) : gbp ≠ gbn)); have m8_ := Aside0.mk ((by rw [hg]; exact Nat.ne_of_gt (blk_lt BKp.out) : gbn ≠ gbp)); have m9_ := Aside0.mk ((by rw [hg]; exact Nat.ne_of_lt (blk_lt BKf.out) : gbf ≠ gbn)); have m10_ := Aside0.mk ((by rw [hg]; exact Nat.ne_of_gt (blk_lt BKf.out) : gbn ≠ gbf)); have m11_ := Aside0.mk ((by rw [hg]; exact Nat.ne_of_lt (blk_lt BKs.out) : gbs ≠ gbn)); have m12_ := Aside0.mk ((by rw [hg]; exact Nat.ne_of_gt (blk_lt BKs.out) : gbn ≠ gbs)); have m13_ := Aside0.mk ((by rw [hg]; exact Nat.ne_of_lt (blk_lt BKq.out) : gbq ≠ gbn)); have m14_ := Aside0.mk ((by rw [hg]; exact Nat.ne_of_gt (blk_lt BKq.out) : gbn ≠ gbq)); (try clear BKp); (try clear BKf); (try clear BKs); (try clear BKq); (try clear HB); have BKp := m0_; have BKf := m1_; have BKs := m2_; have BKq := m3_; have HB := m4_; have BKn := m5_; have GEn := m6_; have NBp_n := m7_; have NBn_p := m8_; have NBf_n := m9_; have NBn_f := m10_; have NBs_n := m11_; have NBn_s := m12_; have NBq_n := m13_; have NBn_q := m14_; clear m0_ m1_ m2_ m3_ m4_ m5_ m6_ m7_ m8_ m9_ m10_ m11_ m12_ m13_ m14_; clear hb hbox hg; have hcz1_n_0 : World.cell? _ ⟨gbn, 0, none⟩ = some (.int .i64 0) := (blk_cell BKn.out 0).trans rfl; have hfz1_n := blk_frozen BKn.out 0)
    | ((with_reducible refine gate_store (t := 3) (p := 9) rfl ?_); refine store_event (t := 3) (p := 9) (v := ?vo_ws2) (w1 := (wbn.setCell ⟨gbn, 0, none⟩ (.int .i64 0))) ?hg ?ho ?hn ?hr ?_; (case ho => rfl); (case hg => rfl); (case hn => rfl); (case hr => first | (go_simp; done) | (go_simp; rfl)); intro ws2 hw; have m0_ := Aside0.mk ((show ws2.heap[gbp]? = some (.cells #[.slice A0 l.length c0] 26 (0, 0)) by rw [hw]; exact blk_far BKp.out (p := ⟨gbn, 0, none⟩) NBp_n.out _)); have m1_ := Aside0.mk ((show ws2.heap[gbf]? = some (.cells #[.int .i64 frm] 3 (0, 0)) by rw [hw]; exact blk_far BKf.out (p := ⟨gbn, 0, none⟩) NBf_n.out _)); have m2_ := Aside0.mk ((show ws2.heap[gbs]? = some (.cells #[.int .u32 s] 31 (0, 0)) by rw [hw]; exact blk_far BKs.out (p := ⟨gbn, 0, none⟩) NBs_n.out _)); have m3_ := Aside0.mk ((show ws2.heap[gbq]? = some (.cells #[.slice none 0 0] 26 (0, 0)) by rw [hw]; exact blk_far BKq.out (p := ⟨gbn, 0, none⟩) NBq_n.out _)); have m4_ := Aside0.mk ((show ws2.heap[gbn]? = some (.cells #[.int .i64 0] 3 (0, 0)) by rw [hw]; exact blk_put (cs := #[.int .i64 0]) BKn.out 0 _ rfl)); have m5_ := Aside0.mk ((show Below w.heap.size w ws2 by rw [hw]; exact below_set HB.out GEn.out)); clear hw; clear BKp; clear BKf; clear BKs; clear BKq; clear BKn; clear HB; have BKp := m0_; have BKf := m1_; have BKs := m2_; have BKq := m3_; have BKn := m4_; have HB := m5_; clear m0_ m1_ m2_ m3_ m4_ m5_; have hcz3_p_0 : World.cell? _ ⟨gbp, 0, none⟩ = some (.slice A0 l.length c0) := (blk_cell BKp.out 0).trans rfl; have hfz3_p := blk_frozen BKp.out 0; have hcz3_f_0 : World.cell? _ ⟨gbf, 0, none⟩ = some (.int .i64 frm) := (blk_cell BKf.out 0).trans rfl; have hfz3_f := blk_frozen BKf.out 0)
    | ((with_reducible refine gate_dst (N := 16) rfl ?_); refine Kd.R_lit (Kd.int .i64) _ 3 ?hg (N := 16) ?hd (xs := ([frm] : List Int)) (inner := [.int .i64 frm]) (ok := fun _ => True) (okp := fun _ => True) ?hr ?hp (fun _ hk => hk) trivial (Below.refl _ _) (Nat.le_refl _) (by simp) ?_; (case hd => rfl); (case hg => rfl); (case hr => first | (go_simp; done) | (go_simp; rfl)); (case hp => exact (Reps.one (show Kd.M (Kd.int .i64) _ _ _ frm [.int .i64 frm] from rfl) (Reps.none _ _))); intro vns wl4 ho_ hb hg_ hnew_; clear hg_ hnew_; have m0_ := Aside0.mk (blk_below (g := gbp) (o := .cells #[.slice A0 l.length c0] 26 (0, 0)) BKp.out hb); have m1_ := Aside0.mk (blk_below (g := gbf) (o := .cells #[.int .i64 frm] 3 (0, 0)) BKf.out hb); have m2_ := Aside0.mk (blk_below (g := gbs) (o := .cells #[.int .u32 s] 31 (0, 0)) BKs.out hb); have m3_ := Aside0.mk (blk_below (g := gbq) (o := .cells #[.slice none 0 0] 26 (0, 0)) BKq.out hb); have m4_ := Aside0.mk (blk_below (g := gbn) (o := .cells #[.int .i64 0] 3 (0, 0)) BKn.out hb); have m5_ := Aside0.mk (below_step HB.out hb); have m6_ := Aside0.mk (Kd.R_lower ho_ HB.out.size); (try clear BKp); (try clear BKf); (try clear BKs); (try clear BKq); (try clear BKn); (try clear HB); have BKp := m0_; have BKf := m1_; have BKs := m2_; have BKq := m3_; have BKn := m4_; have HB := m5_; have HOns := m6_; clear m0_ m1_ m2_ m3_ m4_ m5_ m6_; clear hb ho_; obtain ⟨Ans, cns, ens⟩ := Kd.R_slice HOns.out; subst ens)
    | (go_at_call 45; (refine (pool_with.bad 46 #[.pointer (some ⟨gbs, 0, none⟩), .pointer (some ⟨gbf, 0, none⟩), .pointer (some ⟨gbn, 0, none⟩)] k A0 c0 l _ _ [frm] _ ?s1 HC.out ?s2 ?s3 e1 HE.out HP.out).mono ?_); (case s1 => exact Kd.C_below HR.out HB.out); (case s2 => exact (Kd.R_reads' HOns.out).2.2); (case s3 => exact (Kd.R_reads' HOns.out).2.1); rintro e wr ⟨rfl, hb⟩; clear HOns; clear hcz3_p_0 hfz3_p hcz3_f_0 hfz3_f; have m0_ := Aside0.mk (blk_below (g := gbp) (o := .cells #[.slice A0 l.length c0] 26 (0, 0)) BKp.out hb); have m1_ := Aside0.mk (blk_below (g := gbf) (o := .cells #[.int .i64 frm] 3 (0, 0)) BKf.out hb); have m2_ := Aside0.mk (blk_below (g := gbs) (o := .cells #[.int .u32 s] 31 (0, 0)) BKs.out hb); have m3_ := Aside0.mk (blk_below (g := gbq) (o := .cells #[.slice none 0 0] 26 (0, 0)) BKq.out hb); have m4_ := Aside0.mk (blk_below (g := gbn) (o := .cells #[.int .i64 0] 3 (0, 0)) BKn.out hb); have m5_ := Aside0.mk (below_step HB.out hb); (try clear BKp); (try clear BKf); (try clear BKs); (try clear BKq); (try clear BKn); (try clear HB); have BKp := m0_; have BKf := m1_; have BKs := m2_; have BKq := m3_; have BKn := m4_; have HB := m5_; clear m0_ m1_ m2_ m3_ m4_ m5_; clear hb; have HOv := Aside0.mk (Kd.R_nil (Kd.int .u32) 31 wr w.heap.size (fun _ => True)))
    | ((with_reducible refine gate_dst (N := 10) rfl ?_); refine box_event ?hg (N := 10) ?hd (cs := #[.slice none 0 0]) (t := 26) ?hr ?_; (case hd => rfl); (case hg => rfl); (case hr => first | (go_simp; done) | (go_simp; rfl)); intro gbt hg wbt hbox hb; have m0_ := Aside0.mk (blk_below (g := gbp) (o := .cells #[.slice A0 l.length c0] 26 (0, 0)) BKp.out hb); have m1_ := Aside0.mk (blk_below (g := gbf) (o := .cells #[.int .i64 frm] 3 (0, 0)) BKf.out hb); have m2_ := Aside0.mk (blk_below (g := gbs) (o := .cells #[.int .u32 s] 31 (0, 0)) BKs.out hb); have m3_ := Aside0.mk (blk_below (g := gbq) (o := .cells #[.slice none 0 0] 26 (0, 0)) BKq.out hb); have m4_ := Aside0.mk (blk_below (g := gbn) (o := .cells #[.int .i64 0] 3 (0, 0)) BKn.out hb); have m5_ := Aside0.mk (Kd.R_below HOv.out hb); have m6_ := Aside0.mk (below_step HB.out hb); have m7_ := Aside0.mk (hbox); have m8_ := Aside0.mk ((by rw [hg]; exact HB.out.size : w.heap.size ≤ gbt)); have m9_ := Aside0.mk ((by rw [hg]; exact Nat.ne_of_lt (blk_lt BKp.out) : gbp ≠ gbt)); have m10_ := Aside0.mk ((by rw [hg]; exact Nat.ne_of_gt (blk_lt BKp.out) : gbt ≠ gbp)); have m11_ := Aside0.mk ((by rw [hg]; exact Nat.ne_of_lt (blk_lt BKf.out) : gbf ≠ gbt)); have m12_ := Aside0.mk ((by rw [hg]; exact Nat.ne_of_gt (blk_lt BKf.out) : gbt ≠ gbf)); have m13_ := Aside0.mk ((by rw [hg]; exact Nat.ne_of_lt (blk_lt BKs.out) : gbs ≠ gbt)); have m14_ := Aside0.mk ((by rw [hg]; exact Nat.ne_of_gt (blk_lt BKs.out) : gbt ≠ gbs)); have m15_ := Aside0.mk ((by rw [hg]; exact Nat.ne_of_lt (blk_lt BKq.out) : gbq ≠ gbt)); have m16_ := Aside0.mk ((by rw [hg]; exact Nat.ne_of_gt (blk_lt BKq.out) : gbt ≠ gbq)); have m17_ := Aside0.mk ((by rw [hg]; exact Nat.ne_of_lt (blk_lt BKn.out) : gbn ≠ gbt)); have m18_ := Aside0.mk ((by rw [hg]; exact Nat.ne_of_gt (blk_lt BKn.out) : gbt ≠ gbn)); (try clear BKp); (try clear BKf); (try clear BKs); (try clear BKq); (try clear BKn); (try clear HOv); (try clear HB); have BKp := m0_; have BKf := m1_; have BKs := m2_; have BKq := m3_; have BKn := m4_; have HOv := m5_; have HB := m6_; have BKt := m7_; have GEt := m8_; have NBp_t := m9_; have NBt_p := m10_; have NBf_t := m11_; have NBt_f := m12_; have NBs_t := m13_; have NBt_s := m14_; have NBq_t := m15_; have NBt_q := m16_; have NBn_t := m17_; have NBt_n := m18_; clear m0_ m1_ m2_ m3_ m4_ m5_ m6_ m7_ m8_ m9_ m10_ m11_ m12_ m13_ m14_ m15_ m16_ m17_ m18_; clear hb hbox hg; have hcz5_t_0 : World.cell? _ ⟨gbt, 0, none⟩ = some (.slice none 0 0) := (blk_cell BKt.out 0).trans rfl; have hfz5_t := blk_frozen BKt.out 0)
    | ((with_reducible refine gate_store (t := 26) (p := 10) rfl ?_); refine store_event (t := 26) (p := 10) (v := ?vo_ws6) (w1 := (wbt.setCell ⟨gbt, 0, none⟩ (.slice none 0 0))) ?hg ?ho ?hn ?hr ?_; (case ho => rfl); (case hg => rfl); (case hn => rfl); (case hr => first | (go_simp; done) | (go_simp; rfl)); intro ws6 hw; have m0_ := Aside0.mk ((show ws6.heap[gbp]? = some (.cells #[.slice A0 l.length c0] 26 (0, 0)) by rw [hw]; exact blk_far BKp.out (p := ⟨gbt, 0, none⟩) NBp_t.out _)); have m1_ := Aside0.mk ((show ws6.heap[gbf]? = some (.cells #[.int .i64 frm] 3 (0, 0)) by rw [hw]; exact blk_far BKf.out (p := ⟨gbt, 0, none⟩) NBf_t.out _)); have m2_ := Aside0.mk ((show ws6.heap[gbs]? = some (.cells #[.int .u32 s] 31 (0, 0)) by rw [hw]; exact blk_far BKs.out (p := ⟨gbt, 0, none⟩) NBs_t.out _)); have m3_ := Aside0.mk ((show ws6.heap[gbq]? = some (.cells #[.slice none 0 0] 26 (0, 0)) by rw [hw]; exact blk_far BKq.out (p := ⟨gbt, 0, none⟩) NBq_t.out _)); have m4_ := Aside0.mk ((show ws6.heap[gbn]? = some (.cells #[.int .i64 0] 3 (0, 0)) by rw [hw]; exact blk_far BKn.out (p := ⟨gbt, 0, none⟩) NBn_t.out _)); have m5_ := Aside0.mk ((show ws6.heap[gbt]? = some (.cells #[.slice none 0 0] 26 (0, 0)) by rw [hw]; exact blk_put (cs := #[.slice none 0 0]) BKt.out 0 _ rfl)); have m6_ := Aside0.mk ((show Kd.R (Kd.int .u32) 31 ws6 w.heap.size (fun _ => True) (.slice none 0 0) [] by rw [hw]; exact Kd.R_set HOv.out BKt.out (by decide) 0 _)); have m7_ := Aside0.mk ((show Below w.heap.size w ws6 by rw [hw]; exact below_set HB.out GEt.out)); clear hw; clear BKp; clear BKf; clear BKs; clear BKq; clear BKn; clear BKt; clear HOv; clear HB; have BKp := m0_; have BKf := m1_; have BKs := m2_; have BKq := m3_; have BKn := m4_; have BKt := m5_; have HOv := m6_; have HB := m7_; clear m0_ m1_ m2_ m3_ m4_ m5_ m6_ m7_; have hcz7_t_0 : World.cell? _ ⟨gbt, 0, none⟩ = some (.slice none 0 0) := (blk_cell BKt.out 0).trans rfl; have hfz7_t := blk_frozen BKt.out 0; have hcz7_n_0 : World.cell? _ ⟨gbn, 0, none⟩ = some (.int .i64 0) := (blk_cell BKn.out 0).trans rfl; have hfz7_n := blk_frozen BKn.out 0; have hcz7_q_0 : World.cell? _ ⟨gbq, 0, none⟩ = some (.slice none 0 0) := (blk_cell BKq.out 0).trans rfl; have hfz7_q := blk_frozen BKq.out 0; have hne1_ := NBt_q.out; have hne2_ := NBq_t.out; have hne3_ := NBn_q.out; have hne4_ := NBq_n.out))
  go_region
  go_wp2
  refine bodyPost_ret (results_ctt rfl _ _ gbq 26 #[.slice none 0 0] (0, 0) _ rfl (blk_put (cs := #[.slice none 0 0]) (blk_drew BKq.out) 0 _ rfl) Try.underlying26 rfl (by kernel_rfl)) rfl ?_
  exact ⟨_, rfl, Kd.R_set (Kd.R_drew HOv.out) (blk_drew BKq.out) (by decide) 0 _, (HB.out.drew).setCell GEq.out _⟩
set_option maxHeartbeats 4000000 in
theorem pool_Split.lacks (k : Nat) (A0 : Option Addr) (c0 : Nat) (l : List Int) (frm s : Int) (w : World) (hr : Kd.C (Kd.int .u32) w A0 l.length l) (hc : l.length ≤ c0) (hec : pool_Check.f k l = some 0) (hp : pool_pool.f l [frm] = some false) :
    Calls Try.prog 29 #[.agg #[.slice A0 l.length c0], .int .i64 frm, .int .u32 s] w fun e w' => ∃ v0_ : Value, e = .returned (.tuple #[.agg #[v0_], .int .i64 0, .int .i64 4]) ∧ Kd.R (Kd.int .u32) 31 w' w.heap.size (fun _ => True) v0_ [] ∧ Below w.heap.size w w' := by
  have HR := Aside0.mk hr
  have HC := Aside0.mk hc
  have HE := Aside0.mk hec
  have HP := Aside0.mk hp
  clear hr hc hec hp
  have HB := Aside0.mk (Below.refl w.heap.size w)
  go_enter Try.func29, Try.ntmps29
  go_wp2_with (first
    | ((with_reducible refine gate_dst (N := 3) rfl ?_); refine box_event ?hg (N := 3) ?hd (cs := #[.slice A0 l.length c0]) (t := 26) ?hr ?_; (case hd => rfl); (case hg => rfl); (case hr => first | (go_simp; done) | (go_simp; rfl)); intro gbp hg wbp hbox hb; have m0_ := Aside0.mk (below_step HB.out hb); have m1_ := Aside0.mk (hbox); have m2_ := Aside0.mk ((by rw [hg]; exact HB.out.size : w.heap.size ≤ gbp)); (try clear HB); have HB := m0_; have BKp := m1_; have GEp := m2_; clear m0_ m1_ m2_; clear hb hbox hg)
    | ((with_reducible refine gate_dst (N := 4) rfl ?_); refine box_event ?hg (N := 4) ?hd (cs := #[.int .i64 frm]) (t := 3) ?hr ?_; (case hd => rfl); (case hg => rfl); (case hr => first | (go_simp; done) | (go_simp; rfl)); intro gbf hg wbf hbox hb; have m0_ := Aside0.mk (blk_below (g := gbp) (o := .cells #[.slice A0 l.length c0] 26 (0, 0)) BKp.out hb); have m1_ := Aside0.mk (below_step HB.out hb); have m2_ := Aside0.mk (hbox); have m3_ := Aside0.mk ((by rw [hg]; exact HB.out.size : w.heap.size ≤ gbf)); have m4_ := Aside0.mk ((by rw [hg]; exact Nat.ne_of_lt (blk_lt BKp.out) : gbp ≠ gbf)); have m5_ := Aside0.mk ((by rw [hg]; exact Nat.ne_of_gt (blk_lt BKp.out) : gbf ≠ gbp)); (try clear BKp); (try clear HB); have BKp := m0_; have HB := m1_; have BKf := m2_; have GEf := m3_; have NBp_f := m4_; have NBf_p := m5_; clear m0_ m1_ m2_ m3_ m4_ m5_; clear hb hbox hg)
    | ((with_reducible refine gate_dst (N := 5) rfl ?_); refine box_event ?hg (N := 5) ?hd (cs := #[.int .u32 s]) (t := 31) ?hr ?_; (case hd => rfl); (case hg => rfl); (case hr => first | (go_simp; done) | (go_simp; rfl)); intro gbs hg wbs hbox hb; have m0_ := Aside0.mk (blk_below (g := gbp) (o := .cells #[.slice A0 l.length c0] 26 (0, 0)) BKp.out hb); have m1_ := Aside0.mk (blk_below (g := gbf) (o := .cells #[.int .i64 frm] 3 (0, 0)) BKf.out hb); have m2_ := Aside0.mk (below_step HB.out hb); have m3_ := Aside0.mk (hbox); have m4_ := Aside0.mk ((by rw [hg]; exact HB.out.size : w.heap.size ≤ gbs)); have m5_ := Aside0.mk ((by rw [hg]; exact Nat.ne_of_lt (blk_lt BKp.out) : gbp ≠ gbs)); have m6_ := Aside0.mk ((by rw [hg]; exact Nat.ne_of_gt (blk_lt BKp.out) : gbs ≠ gbp)); have m7_ := Aside0.mk ((by rw [hg]; exact Nat.ne_of_lt (blk_lt BKf.out) : gbf ≠ gbs)); have m8_ := Aside0.mk ((by rw [hg]; exact Nat.ne_of_gt (blk_lt BKf.out) : gbs ≠ gbf)); (try clear BKp); (try clear BKf); (try clear HB); have BKp := m0_; have BKf := m1_; have HB := m2_; have BKs := m3_; have GEs := m4_; have NBp_s := m5_; have NBs_p := m6_; have NBf_s := m7_; have NBs_f := m8_; clear m0_ m1_ m2_ m3_ m4_ m5_ m6_ m7_ m8_; clear hb hbox hg)
    | ((with_reducible refine gate_dst (N := 6) rfl ?_); refine box_event ?hg (N := 6) ?hd (cs := #[.slice none 0 0]) (t := 26) ?hr ?_; (case hd => rfl); (case hg => rfl); (case hr => first | (go_simp; done) | (go_simp; rfl)); intro gbq hg wbq hbox hb; have m0_ := Aside0.mk (blk_below (g := gbp) (o := .cells #[.slice A0 l.length c0] 26 (0, 0)) BKp.out hb); have m1_ := Aside0.mk (blk_below (g := gbf) (o := .cells #[.int .i64 frm] 3 (0, 0)) BKf.out hb); have m2_ := Aside0.mk (blk_below (g := gbs) (o := .cells #[.int .u32 s] 31 (0, 0)) BKs.out hb); have m3_ := Aside0.mk (below_step HB.out hb); have m4_ := Aside0.mk (hbox); have m5_ := Aside0.mk ((by rw [hg]; exact HB.out.size : w.heap.size ≤ gbq)); have m6_ := Aside0.mk ((by rw [hg]; exact Nat.ne_of_lt (blk_lt BKp.out) : gbp ≠ gbq)); have m7_ := Aside0.mk ((by rw [hg]; exact Nat.ne_of_gt (blk_lt BKp.out) : gbq ≠ gbp)); have m8_ := Aside0.mk ((by rw [hg]; exact Nat.ne_of_lt (blk_lt BKf.out) : gbf ≠ gbq)); have m9_ := Aside0.mk ((by rw [hg]; exact Nat.ne_of_gt (blk_lt BKf.out) : gbq ≠ gbf)); have m10_ := Aside0.mk ((by rw [hg]; exact Nat.ne_of_lt (blk_lt BKs.out) : gbs ≠ gbq)); have m11_ := Aside0.mk ((by rw [hg]; exact Nat.ne_of_gt (blk_lt BKs.out) : gbq ≠ gbs)); (try clear BKp); (try clear BKf); (try clear BKs); (try clear HB); have BKp := m0_; have BKf := m1_; have BKs := m2_; have HB := m3_; have BKq := m4_; have GEq := m5_; have NBp_q := m6_; have NBq_p := m7_; have NBf_q := m8_; have NBq_f := m9_; have NBs_q := m10_; have NBq_s := m11_; clear m0_ m1_ m2_ m3_ m4_ m5_ m6_ m7_ m8_ m9_ m10_ m11_; clear hb hbox hg)
    | ((with_reducible refine gate_dst (N := 9) rfl ?_); refine box_event ?hg (N := 9) ?hd (cs := #[.int .i64 0]) (t := 3) ?hr ?_; (case hd => rfl); (case hg => rfl); (case hr => first | (go_simp; done) | (go_simp; rfl)); intro gbn hg wbn hbox hb; have m0_ := Aside0.mk (blk_below (g := gbp) (o := .cells #[.slice A0 l.length c0] 26 (0, 0)) BKp.out hb); have m1_ := Aside0.mk (blk_below (g := gbf) (o := .cells #[.int .i64 frm] 3 (0, 0)) BKf.out hb); have m2_ := Aside0.mk (blk_below (g := gbs) (o := .cells #[.int .u32 s] 31 (0, 0)) BKs.out hb); have m3_ := Aside0.mk (blk_below (g := gbq) (o := .cells #[.slice none 0 0] 26 (0, 0)) BKq.out hb); have m4_ := Aside0.mk (below_step HB.out hb); have m5_ := Aside0.mk (hbox); have m6_ := Aside0.mk ((by rw [hg]; exact HB.out.size : w.heap.size ≤ gbn)); have m7_ := Aside0.mk ((by rw [hg]; exact Nat.ne_of_lt (blk_lt BKp.out) : gbp ≠ gbn)); have m8_ := Aside0.mk ((by rw [hg]; exact Nat.ne_of_gt (blk_lt BKp.out) : gbn ≠ gbp)); have m9_ := Aside0.mk ((by rw [hg]; exact Nat.ne_of_lt (blk_lt BKf.out) : gbf ≠ gbn)); have m10_ := Aside0.mk ((by rw [hg]; exact Nat.ne_of_gt (blk_lt BKf.out) : gbn ≠ gbf)); have m11_ := Aside0.mk ((by rw [hg]; exact Nat.ne_of_lt (blk_lt BKs.out) : gbs ≠ gbn)); have m12_ := Aside0.mk ((by rw [hg]; exact Nat.ne_of_gt (blk_lt BKs.out) : gbn ≠ gbs)); have m13_ := Aside0.mk ((by rw [hg]; exact Nat.ne_of_lt (blk_lt BKq.out) : gbq ≠ gbn)); have m14_ := Aside0.mk ((by rw [hg]; exact Nat.ne_of_gt (blk_lt BKq.out) : gbn ≠ gbq)); (try clear BKp); (try clear BKf); (try clear BKs); (try clear BKq); (try clear HB); have BKp := m0_; have BKf := m1_; have BKs := m2_; have BKq := m3_; have HB := m4_; have BKn := m5_; have GEn := m6_; have NBp_n := m7_; have NBn_p := m8_; have NBf_n := m9_; have NBn_f := m10_; have NBs_n := m11_; have NBn_s := m12_; have NBq_n := m13_; have NBn_q := m14_; clear m0_ m1_ m2_ m3_ m4_ m5_ m6_ m7_ m8_ m9_ m10_ m11_ m12_ m13_ m14_; clear hb hbox hg; have hcz1_n_0 : World.cell? _ ⟨gbn, 0, none⟩ = some (.int .i64 0) := (blk_cell BKn.out 0).trans rfl; have hfz1_n := blk_frozen BKn.out 0)
    | ((with_reducible refine gate_store (t := 3) (p := 9) rfl ?_); refine store_event (t := 3) (p := 9) (v := ?vo_ws2) (w1 := (wbn.setCell ⟨gbn, 0, none⟩ (.int .i64 0))) ?hg ?ho ?hn ?hr ?_; (case ho => rfl); (case hg => rfl); (case hn => rfl); (case hr => first | (go_simp; done) | (go_simp; rfl)); intro ws2 hw; have m0_ := Aside0.mk ((show ws2.heap[gbp]? = some (.cells #[.slice A0 l.length c0] 26 (0, 0)) by rw [hw]; exact blk_far BKp.out (p := ⟨gbn, 0, none⟩) NBp_n.out _)); have m1_ := Aside0.mk ((show ws2.heap[gbf]? = some (.cells #[.int .i64 frm] 3 (0, 0)) by rw [hw]; exact blk_far BKf.out (p := ⟨gbn, 0, none⟩) NBf_n.out _)); have m2_ := Aside0.mk ((show ws2.heap[gbs]? = some (.cells #[.int .u32 s] 31 (0, 0)) by rw [hw]; exact blk_far BKs.out (p := ⟨gbn, 0, none⟩) NBs_n.out _)); have m3_ := Aside0.mk ((show ws2.heap[gbq]? = some (.cells #[.slice none 0 0] 26 (0, 0)) by rw [hw]; exact blk_far BKq.out (p := ⟨gbn, 0, none⟩) NBq_n.out _)); have m4_ := Aside0.mk ((show ws2.heap[gbn]? = some (.cells #[.int .i64 0] 3 (0, 0)) by rw [hw]; exact blk_put (cs := #[.int .i64 0]) BKn.out 0 _ rfl)); have m5_ := Aside0.mk ((show Below w.heap.size w ws2 by rw [hw]; exact below_set HB.out GEn.out)); clear hw; clear BKp; clear BKf; clear BKs; clear BKq; clear BKn; clear HB; have BKp := m0_; have BKf := m1_; have BKs := m2_; have BKq := m3_; have BKn := m4_; have HB := m5_; clear m0_ m1_ m2_ m3_ m4_ m5_; have hcz3_p_0 : World.cell? _ ⟨gbp, 0, none⟩ = some (.slice A0 l.length c0) := (blk_cell BKp.out 0).trans rfl; have hfz3_p := blk_frozen BKp.out 0; have hcz3_f_0 : World.cell? _ ⟨gbf, 0, none⟩ = some (.int .i64 frm) := (blk_cell BKf.out 0).trans rfl; have hfz3_f := blk_frozen BKf.out 0)
    | ((with_reducible refine gate_dst (N := 16) rfl ?_); refine Kd.R_lit (Kd.int .i64) _ 3 ?hg (N := 16) ?hd (xs := ([frm] : List Int)) (inner := [.int .i64 frm]) (ok := fun _ => True) (okp := fun _ => True) ?hr ?hp (fun _ hk => hk) trivial (Below.refl _ _) (Nat.le_refl _) (by simp) ?_; (case hd => rfl); (case hg => rfl); (case hr => first | (go_simp; done) | (go_simp; rfl)); (case hp => exact (Reps.one (show Kd.M (Kd.int .i64) _ _ _ frm [.int .i64 frm] from rfl) (Reps.none _ _))); intro vns wl4 ho_ hb hg_ hnew_; clear hg_ hnew_; have m0_ := Aside0.mk (blk_below (g := gbp) (o := .cells #[.slice A0 l.length c0] 26 (0, 0)) BKp.out hb); have m1_ := Aside0.mk (blk_below (g := gbf) (o := .cells #[.int .i64 frm] 3 (0, 0)) BKf.out hb); have m2_ := Aside0.mk (blk_below (g := gbs) (o := .cells #[.int .u32 s] 31 (0, 0)) BKs.out hb); have m3_ := Aside0.mk (blk_below (g := gbq) (o := .cells #[.slice none 0 0] 26 (0, 0)) BKq.out hb); have m4_ := Aside0.mk (blk_below (g := gbn) (o := .cells #[.int .i64 0] 3 (0, 0)) BKn.out hb); have m5_ := Aside0.mk (below_step HB.out hb); have m6_ := Aside0.mk (Kd.R_lower ho_ HB.out.size); (try clear BKp); (try clear BKf); (try clear BKs); (try clear BKq); (try clear BKn); (try clear HB); have BKp := m0_; have BKf := m1_; have BKs := m2_; have BKq := m3_; have BKn := m4_; have HB := m5_; have HOns := m6_; clear m0_ m1_ m2_ m3_ m4_ m5_ m6_; clear hb ho_; obtain ⟨Ans, cns, ens⟩ := Kd.R_slice HOns.out; subst ens)
    | (go_at_call 45; (refine (pool_with.lacks 46 #[.pointer (some ⟨gbs, 0, none⟩), .pointer (some ⟨gbf, 0, none⟩), .pointer (some ⟨gbn, 0, none⟩)] k A0 c0 l _ _ [frm] _ ?s1 HC.out ?s2 ?s3 HE.out HP.out).mono ?_); (case s1 => exact Kd.C_below HR.out HB.out); (case s2 => exact (Kd.R_reads' HOns.out).2.2); (case s3 => exact (Kd.R_reads' HOns.out).2.1); rintro e wr ⟨rfl, hb⟩; clear HOns; clear hcz3_p_0 hfz3_p hcz3_f_0 hfz3_f; have m0_ := Aside0.mk (blk_below (g := gbp) (o := .cells #[.slice A0 l.length c0] 26 (0, 0)) BKp.out hb); have m1_ := Aside0.mk (blk_below (g := gbf) (o := .cells #[.int .i64 frm] 3 (0, 0)) BKf.out hb); have m2_ := Aside0.mk (blk_below (g := gbs) (o := .cells #[.int .u32 s] 31 (0, 0)) BKs.out hb); have m3_ := Aside0.mk (blk_below (g := gbq) (o := .cells #[.slice none 0 0] 26 (0, 0)) BKq.out hb); have m4_ := Aside0.mk (blk_below (g := gbn) (o := .cells #[.int .i64 0] 3 (0, 0)) BKn.out hb); have m5_ := Aside0.mk (below_step HB.out hb); (try clear BKp); (try clear BKf); (try clear BKs); (try clear BKq); (try clear BKn); (try clear HB); have BKp := m0_; have BKf := m1_; have BKs := m2_; have BKq := m3_; have BKn := m4_; have HB := m5_; clear m0_ m1_ m2_ m3_ m4_ m5_; clear hb; have HOv := Aside0.mk (Kd.R_nil (Kd.int .u32) 31 wr w.heap.size (fun _ => True)))
    | ((with_reducible refine gate_dst (N := 10) rfl ?_); refine box_event ?hg (N := 10) ?hd (cs := #[.slice none 0 0]) (t := 26) ?hr ?_; (case hd => rfl); (case hg => rfl); (case hr => first | (go_simp; done) | (go_simp; rfl)); intro gbt hg wbt hbox hb; have m0_ := Aside0.mk (blk_below (g := gbp) (o := .cells #[.slice A0 l.length c0] 26 (0, 0)) BKp.out hb); have m1_ := Aside0.mk (blk_below (g := gbf) (o := .cells #[.int .i64 frm] 3 (0, 0)) BKf.out hb); have m2_ := Aside0.mk (blk_below (g := gbs) (o := .cells #[.int .u32 s] 31 (0, 0)) BKs.out hb); have m3_ := Aside0.mk (blk_below (g := gbq) (o := .cells #[.slice none 0 0] 26 (0, 0)) BKq.out hb); have m4_ := Aside0.mk (blk_below (g := gbn) (o := .cells #[.int .i64 0] 3 (0, 0)) BKn.out hb); have m5_ := Aside0.mk (Kd.R_below HOv.out hb); have m6_ := Aside0.mk (below_step HB.out hb); have m7_ := Aside0.mk (hbox); have m8_ := Aside0.mk ((by rw [hg]; exact HB.out.size : w.heap.size ≤ gbt)); have m9_ := Aside0.mk ((by rw [hg]; exact Nat.ne_of_lt (blk_lt BKp.out) : gbp ≠ gbt)); have m10_ := Aside0.mk ((by rw [hg]; exact Nat.ne_of_gt (blk_lt BKp.out) : gbt ≠ gbp)); have m11_ := Aside0.mk ((by rw [hg]; exact Nat.ne_of_lt (blk_lt BKf.out) : gbf ≠ gbt)); have m12_ := Aside0.mk ((by rw [hg]; exact Nat.ne_of_gt (blk_lt BKf.out) : gbt ≠ gbf)); have m13_ := Aside0.mk ((by rw [hg]; exact Nat.ne_of_lt (blk_lt BKs.out) : gbs ≠ gbt)); have m14_ := Aside0.mk ((by rw [hg]; exact Nat.ne_of_gt (blk_lt BKs.out) : gbt ≠ gbs)); have m15_ := Aside0.mk ((by rw [hg]; exact Nat.ne_of_lt (blk_lt BKq.out) : gbq ≠ gbt)); have m16_ := Aside0.mk ((by rw [hg]; exact Nat.ne_of_gt (blk_lt BKq.out) : gbt ≠ gbq)); have m17_ := Aside0.mk ((by rw [hg]; exact Nat.ne_of_lt (blk_lt BKn.out) : gbn ≠ gbt)); have m18_ := Aside0.mk ((by rw [hg]; exact Nat.ne_of_gt (blk_lt BKn.out) : gbt ≠ gbn)); (try clear BKp); (try clear BKf); (try clear BKs); (try clear BKq); (try clear BKn); (try clear HOv); (try clear HB); have BKp := m0_; have BKf := m1_; have BKs := m2_; have BKq := m3_; have BKn := m4_; have HOv := m5_; have HB := m6_; have BKt := m7_; have GEt := m8_; have NBp_t := m9_; have NBt_p := m10_; have NBf_t := m11_; have NBt_f := m12_; have NBs_t := m13_; have NBt_s := m14_; have NBq_t := m15_; have NBt_q := m16_; have NBn_t := m17_; have NBt_n := m18_; clear m0_ m1_ m2_ m3_ m4_ m5_ m6_ m7_ m8_ m9_ m10_ m11_ m12_ m13_ m14_ m15_ m16_ m17_ m18_; clear hb hbox hg; have hcz5_t_0 : World.cell? _ ⟨gbt, 0, none⟩ = some (.slice none 0 0) := (blk_cell BKt.out 0).trans rfl; have hfz5_t := blk_frozen BKt.out 0)
    | ((with_reducible refine gate_store (t := 26) (p := 10) rfl ?_); refine store_event (t := 26) (p := 10) (v := ?vo_ws6) (w1 := (wbt.setCell ⟨gbt, 0, none⟩ (.slice none 0 0))) ?hg ?ho ?hn ?hr ?_; (case ho => rfl); (case hg => rfl); (case hn => rfl); (case hr => first | (go_simp; done) | (go_simp; rfl)); intro ws6 hw; have m0_ := Aside0.mk ((show ws6.heap[gbp]? = some (.cells #[.slice A0 l.length c0] 26 (0, 0)) by rw [hw]; exact blk_far BKp.out (p := ⟨gbt, 0, none⟩) NBp_t.out _)); have m1_ := Aside0.mk ((show ws6.heap[gbf]? = some (.cells #[.int .i64 frm] 3 (0, 0)) by rw [hw]; exact blk_far BKf.out (p := ⟨gbt, 0, none⟩) NBf_t.out _)); have m2_ := Aside0.mk ((show ws6.heap[gbs]? = some (.cells #[.int .u32 s] 31 (0, 0)) by rw [hw]; exact blk_far BKs.out (p := ⟨gbt, 0, none⟩) NBs_t.out _)); have m3_ := Aside0.mk ((show ws6.heap[gbq]? = some (.cells #[.slice none 0 0] 26 (0, 0)) by rw [hw]; exact blk_far BKq.out (p := ⟨gbt, 0, none⟩) NBq_t.out _)); have m4_ := Aside0.mk ((show ws6.heap[gbn]? = some (.cells #[.int .i64 0] 3 (0, 0)) by rw [hw]; exact blk_far BKn.out (p := ⟨gbt, 0, none⟩) NBn_t.out _)); have m5_ := Aside0.mk ((show ws6.heap[gbt]? = some (.cells #[.slice none 0 0] 26 (0, 0)) by rw [hw]; exact blk_put (cs := #[.slice none 0 0]) BKt.out 0 _ rfl)); have m6_ := Aside0.mk ((show Kd.R (Kd.int .u32) 31 ws6 w.heap.size (fun _ => True) (.slice none 0 0) [] by rw [hw]; exact Kd.R_set HOv.out BKt.out (by decide) 0 _)); have m7_ := Aside0.mk ((show Below w.heap.size w ws6 by rw [hw]; exact below_set HB.out GEt.out)); clear hw; clear BKp; clear BKf; clear BKs; clear BKq; clear BKn; clear BKt; clear HOv; clear HB; have BKp := m0_; have BKf := m1_; have BKs := m2_; have BKq := m3_; have BKn := m4_; have BKt := m5_; have HOv := m6_; have HB := m7_; clear m0_ m1_ m2_ m3_ m4_ m5_ m6_ m7_; have hcz7_t_0 : World.cell? _ ⟨gbt, 0, none⟩ = some (.slice none 0 0) := (blk_cell BKt.out 0).trans rfl; have hfz7_t := blk_frozen BKt.out 0; have hcz7_n_0 : World.cell? _ ⟨gbn, 0, none⟩ = some (.int .i64 0) := (blk_cell BKn.out 0).trans rfl; have hfz7_n := blk_frozen BKn.out 0; have hcz7_q_0 : World.cell? _ ⟨gbq, 0, none⟩ = some (.slice none 0 0) := (blk_cell BKq.out 0).trans rfl; have hfz7_q := blk_frozen BKq.out 0; have hne1_ := NBt_q.out; have hne2_ := NBq_t.out; have hne3_ := NBn_q.out; have hne4_ := NBq_n.out))
  go_region
  go_wp2
  refine bodyPost_ret (results_ctt rfl _ _ gbq 26 #[.slice none 0 0] (0, 0) _ rfl (blk_put (cs := #[.slice none 0 0]) (blk_drew BKq.out) 0 _ rfl) Try.underlying26 rfl (by kernel_rfl)) rfl ?_
  exact ⟨_, rfl, Kd.R_set (Kd.R_drew HOv.out) (blk_drew BKq.out) (by decide) 0 _, (HB.out.drew).setCell GEq.out _⟩

def pool_Split.f (k : Nat) (l0_0 : List Int) (a1 : Int) (a2 : Int) : Option (List Int × Int × Int) :=
  if l0_0.length < 35184372088832 then (pool_Check.f k l0_0).bind fun e => if e ≠ 0 then some ([], 0, e) else (pool_pool.f l0_0 [a1]).bind fun ok => if ok = false then some ([], 0, 4) else (splitDo l0_0 a1 a2).bind fun x => some (if x.1 = 0 then x.2.1 else [], x.2.2, x.1) else none
theorem pool_Split.mono : ∀ a0 a1 a2 k, LeO (pool_Split.f k a0 a1 a2) (pool_Split.f (k + 1) a0 a1 a2) := by
  intro a0 a1 a2 k
  unfold pool_Split.f
  split
  · exact LeO.bind (pool_Check.mono a0 k) (fun _ => LeO.refl _)
  · exact LeO.refl _
theorem pool_pool.one {l : List Int} {n : Int} (h : pool_pool.f l [n] = some true) : 0 ≤ n ∧ n < l.length := by
  unfold pool_pool.f at h
  simp at h
  omega
theorem pool_Split.calls (k : Nat) (A0_0 : Option Addr) (c0_0 : Nat) (l0_0 : List Int) (a1 : Int) (a2 : Int) (r1 : List Int) (r2 : Int) (r3 : Int) (w : World) (hr0_0 : Kd.C (Kd.int .u32) w A0_0 l0_0.length l0_0) (hc0_0 : l0_0.length ≤ c0_0) (h : pool_Split.f k l0_0 a1 a2 = some (r1, r2, r3)) :
    Calls Try.prog 29 #[.agg #[.slice A0_0 l0_0.length c0_0], .int .i64 a1, .int .u32 a2] w fun e w' => ∃ v0_ : Value, e = .returned (.tuple #[.agg #[v0_], .int .i64 r2, .int .i64 r3]) ∧ Kd.R (Kd.int .u32) 31 w' w.heap.size (fun _ => True) v0_ r1 ∧ Below w.heap.size w w' := by
  unfold pool_Split.f at h
  split at h
  case isFalse => cases h
  case isTrue hl =>
  obtain ⟨e, he, h⟩ := Option.bind_eq_some_iff.mp h
  by_cases e0 : e = 0
  case neg =>
    rw [if_pos e0] at h
    injection h with h; injection h with h1 h; injection h with h2 h3
    subst h1 h2 h3
    exact pool_Split.bad k A0_0 c0_0 l0_0 a1 a2 w hr0_0 hc0_0 e he e0
  subst e0
  rw [if_neg (by simp)] at h
  obtain ⟨ok, hok, h⟩ := Option.bind_eq_some_iff.mp h
  cases ok
  · rw [if_pos rfl] at h
    injection h with h; injection h with h1 h; injection h with h2 h3
    subst h1 h2 h3
    exact pool_Split.lacks k A0_0 c0_0 l0_0 a1 a2 w hr0_0 hc0_0 he hok
  rw [if_neg (by simp)] at h
  obtain ⟨⟨err, l', n⟩, hx, h⟩ := Option.bind_eq_some_iff.mp h
  injection h with h; injection h with h1 h; injection h with h2 h3
  subst h2 h3
  obtain ⟨h0, h1'⟩ := pool_pool.one hok
  obtain ⟨ad, rfl, _⟩ := Kd.at_int hr0_0 a1 h0 h1'
  exact pool_Split.does k ad c0_0 l0_0 a1 a2 err n l' w hr0_0 hc0_0 hl he hok h0 h1' hx r1 h1.symm

end Go.Proofs.Ytkhbffjfclepfaa.Q

/- Function 49, slices_Delete___mainsheet_api_Cpus_mainsheet_api_Cpus_: contracts over the given program's functions, one a function; no condition beyond those that each theorem states. Written by this session's program over the kit's printer, and by hand. -/
namespace Go.Proofs.Ytkhbffjfclepfaa.Q
open Go.RowKit Go.Proofs.YtkhbffjfclepfaaW.PrintWords Go.Proofs.YtkhbffjfclepfaaW.PrintLast Go.Proofs.YtkhbffjfclepfaaW.PrintMore
attribute [local go_sem] max2_int min2_int max_two min_two max_three min_three max_four min_four
set_option linter.unusedVariables false
set_option linter.unusedSimpArgs false

/-! ### slices_Delete_cpus: function 49, by hand -/
theorem R_set_spare {k : IntKind} {e : Nat} {W : World} {B : Nat} {ok : Nat → Prop} {g m cap : Nat} {xs : List Int} (h : Kd.R (Kd.int k) e W B ok (.slice (some ⟨g, 0, none⟩) m cap) xs) (j : Nat) (hj : m ≤ j) (u : Value) :
    Kd.R (Kd.int k) e (W.setCell ⟨g, j, none⟩ u) B ok (.slice (some ⟨g, 0, none⟩) m cap) xs := by
  obtain ⟨h0, inner, ⟨hl, hh⟩, hr⟩ := h
  refine ⟨h0, inner, ⟨hl, ?_⟩, hr⟩
  rcases hh with ⟨hv, _⟩ | ⟨g', cap', cur, hv, hb, hg, hn, hm, hs, ht⟩
  · cases hv
  · injection hv with ha hn' hc'
    injection ha with ha
    injection ha with ha
    subst ha hc'
    have hsz : (Kd.int k).sz = 1 := rfl
    refine .inr ⟨g, cap, cur.setIfInBounds j u, by rw [hn'], hb, blk_set hg j u, hn, hm, by simpa using hs, ?_⟩
    rw [← ht]
    rw [Array.toList_setIfInBounds, List.take_set]
    rw [List.set_eq_of_length_le]
    rw [hsz] at *
    rw [List.length_take]
    omega
theorem R_room {k : IntKind} {e : Nat} {W : World} {B : Nat} {ok : Nat → Prop} {g m cap : Nat} {xs : List Int} (h : Kd.R (Kd.int k) e W B ok (.slice (some ⟨g, 0, none⟩) m cap) xs) (j : Nat) (hj : j < cap) : (W.cell? ⟨g, j, none⟩).isSome = true ∧ W.frozen? ⟨g, j, none⟩ = false := by
  obtain ⟨h0, inner, ⟨hl, hh⟩, hr⟩ := h
  rcases hh with ⟨hv, _⟩ | ⟨g', cap', cur, hv, hb, hg, hn, hm, hs, ht⟩
  · cases hv
  · injection hv with ha hn' hc'
    injection ha with ha
    injection ha with ha
    subst ha hc'
    have hsz : (Kd.int k).sz = 1 := rfl
    rw [hsz] at hs
    refine ⟨?_, blk_frozen hg j⟩
    rw [blk_cell hg j]
    simp
    omega
set_option maxHeartbeats 2000000 in
theorem slices_Delete_cpus.calls (g cap : Nat) (l : List Int) (m i : Nat) (B : Nat) (ok : Nat → Prop) (w : World) (hR : Kd.R (Kd.int .u32) 31 w B ok (.slice (some ⟨g, 0, none⟩) (m + 1) cap) l) (hi : i < m + 1) (hBw : B ≤ w.heap.size) :
    Calls Try.prog 49 #[.slice (some ⟨g, 0, none⟩) (m + 1) cap, .int .i64 i, .int .i64 ((i : Int) + 1)] w fun e w' => e = .returned (.slice (some ⟨g, 0, none⟩) m cap) ∧ Kd.R (Kd.int .u32) 31 w' B ok (.slice (some ⟨g, 0, none⟩) m cap) (l.eraseIdx i) ∧ w.grownBy w' (some g) := by
  have hcap := (Kd.R_reads' hR).2.1
  have HR := Aside0.mk hR
  have d1 : ((i : Int) == (i : Int) + 1) = false := beq_eq_false_iff_ne.mpr (by omega)
  have f1 : ((i : Int) ≤ (cap : Int)) = True := eq_true (by omega)
  have f3 : ((i : Int) ≤ (i : Int) + 1) = True := eq_true (by omega)
  have f7 : ((i : Int) ≤ (m : Int)) = True := eq_true (by omega)
  have f11 : (i ≤ m) = True := eq_true (by omega)
  have f8 : ((i : Int) + 1 ≤ (m : Int) + 1) = True := eq_true (by omega)
  have f9 : ((m : Int) + 1 ≤ (cap : Int)) = True := eq_true (by omega)
  have f10 : ((m : Int) ≤ (cap : Int)) = True := eq_true (by omega)
  have f4 : (0 ≤ (i : Int)) = True := eq_true (by omega)
  have f5 : (0 ≤ (i : Int) + 1) = True := eq_true (by omega)
  have f6 : ((i : Int) + 1).toNat = i + 1 := by omega
  have HI := Aside0.mk hi
  have HBW := Aside0.mk hBw
  clear hBw hR
  have HCAP := Aside0.mk hcap
  by_cases hc : cap = i + 1
  · have HC := Aside0.mk hc
    replace hc := eq_true hc
    go_enter Try.func49, Try.ntmps49
    go_wp2
    go_region_law (refine Kd.R_delete_step (Kd.int .u32) (w0 := w.drew) (W := w.drew) B rfl (.tmp 22) (.tmp 25) 24 31 rfl Try.underlying24 rfl rfl rfl (by rw [if_pos HC.out]) (by omega) (Kd.R_drew HR.out) HI.out (Below.refl _ _) HBW.out ?_; intro w1 ho1 hb1 hg1)
    have HO1 := Aside0.mk ho1
    have HG1 := Aside0.mk hg1
    have hcl : ∀ ty, (Builtin.clear_ #[24] ty #[.slice (some ⟨g, m, none⟩) (m + 1 - m) (cap - m)]).run Try.prog w1 = .ok (.tuple #[]) (w1.setCell ⟨g, m, none⟩ (.int .u32 0)) := by
      intro ty
      rw [show m + 1 - m = 1 by omega]
      exact Lib.run_clear_slice w1 24 31 ty (.int .u32 0) Try.underlying24 (fun _ => by kernel_rfl) rfl rfl g m 1 _ (by omega) (fun j hj => (R_room ho1 (m + j) (by have := HCAP.out; omega)).1) (fun j hj => (R_room ho1 (m + j) (by have := HCAP.out; omega)).2)
    rw [show m + 1 - m = 1 by omega] at hcl
    clear ho1 hb1 hg1
    go_wp2
    go_ret
    exact ⟨rfl, R_set_spare HO1.out m (by simp) _, ⟨HG1.out.os, HG1.out.tape, HG1.out.output, by have := HG1.out.size; simpa [World.setCell] using this, fun k_ hk_ hne_ => (Below.heap_setCell _ _ _ k_ (fun e_ => hne_ (by rw [e_]))).trans (HG1.out.block k_ hk_ hne_)⟩⟩
  · have HC := Aside0.mk hc
    go_enter Try.func49, Try.ntmps49
    go_wp2
    go_region_law (refine Kd.R_delete_step (Kd.int .u32) (w0 := w.drew) (W := w.drew) B rfl (.tmp 22) (.tmp 25) 24 31 rfl Try.underlying24 rfl rfl rfl (by rw [if_neg HC.out]; show some (Addr.mk g (i + 1) none) = some (Addr.add ⟨g, 0, none⟩ ((i + 1) * 1)); simp [Addr.add]) (by omega) (Kd.R_drew HR.out) HI.out (Below.refl _ _) HBW.out ?_; intro w1 ho1 hb1 hg1)
    have HO1 := Aside0.mk ho1
    have HG1 := Aside0.mk hg1
    have hcl : ∀ ty, (Builtin.clear_ #[24] ty #[.slice (some ⟨g, m, none⟩) (m + 1 - m) (cap - m)]).run Try.prog w1 = .ok (.tuple #[]) (w1.setCell ⟨g, m, none⟩ (.int .u32 0)) := by
      intro ty
      rw [show m + 1 - m = 1 by omega]
      exact Lib.run_clear_slice w1 24 31 ty (.int .u32 0) Try.underlying24 (fun _ => by kernel_rfl) rfl rfl g m 1 _ (by omega) (fun j hj => (R_room ho1 (m + j) (by have := HCAP.out; omega)).1) (fun j hj => (R_room ho1 (m + j) (by have := HCAP.out; omega)).2)
    rw [show m + 1 - m = 1 by omega] at hcl
    clear ho1 hb1 hg1
    go_wp2
    go_ret
    exact ⟨rfl, R_set_spare HO1.out m (by simp) _, ⟨HG1.out.os, HG1.out.tape, HG1.out.output, by have := HG1.out.size; simpa [World.setCell] using this, fun k_ hk_ hne_ => (Below.heap_setCell _ _ _ k_ (fun e_ => hne_ (by rw [e_]))).trans (HG1.out.block k_ hk_ hne_)⟩⟩

end Go.Proofs.Ytkhbffjfclepfaa.Q
