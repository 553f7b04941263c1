/- Part 4 of 13 of what the row of PoolDoes stands on: contracts over the given program's functions, the plain law, the row; no condition beyond those that each theorem states. -/
import Derived.Test.YtkhbffjfclepfaaXPoolDoes3
import Derived.Deep.RegionWith
import Derived.Deep.QuietTactic
import Derived.BigQuiet
import Derived.BigRegion
/- Function 31, mainsheet_pool_Move: contracts over the given program's functions, one a function; no condition beyond those that each theorem states. Written by this session's program over the kit's printer, and by hand. -/
namespace Go.Proofs.Ytkhbffjfclepfaa.Q
open Go.RowKit Go.Proofs.YtkhbffjfclepfaaW.PrintWords Go.Proofs.YtkhbffjfclepfaaW.PrintLast Go.Proofs.YtkhbffjfclepfaaW.PrintMore
attribute [local go_sem] max2_int min2_int max_two min_two max_three min_three max_four min_four
set_option linter.unusedVariables false
set_option linter.unusedSimpArgs false

/-! ### pool_Move: function 31, by hand -/
set_option maxHeartbeats 4000000 in
theorem pool_Move1.lacks (k : Nat) (gq gc gt gw : Nat) (l : List Int) (cpu tt n : Int) (v : Value) (base B0 : Nat) (w : World)
    (hq : w.heap[gq]? = some (.cells #[v] 26 (0, 0))) (hR : Kd.R (Kd.int .u32) 31 w B0 (fun _ => True) v l)
    (hc : w.heap[gc]? = some (.cells #[.int .i64 cpu] 3 (0, 0))) (ht : w.heap[gt]? = some (.cells #[.int .i64 tt] 3 (0, 0))) (hw : w.heap[gw]? = some (.cells #[.int .i64 0] 3 (0, 0)))
    (h0 : 0 ≤ tt) (h1 : tt < l.length) (hl : l.length < 35184372088832) (hB0 : ∀ g, g = gc ∨ g = gt ∨ g = gw → g < B0) (hB0w : B0 ≤ w.heap.size) (hbn : base ≤ gw) (hbB : base ≤ B0) (hBq : B0 ≤ gq) (htw : gt ≠ gw) (hcw : gc ≠ gw) (n0 : Int) (hof : pool_Of.f k l cpu = some (n0, false)) :
    Calls Try.prog 50 #[.pointer (some ⟨gq, 0, none⟩), .pointer (some ⟨gc, 0, none⟩), .pointer (some ⟨gt, 0, none⟩), .pointer (some ⟨gw, 0, none⟩)] w fun e W' => e = .returned (.int .i64 2) ∧ Below w.heap.size w W' := by
  obtain ⟨go, co, rfl, hgo, hgl, cl, HG⟩ := Kd.R_form hR (by omega)
  have HX0 := Aside0.mk hB0w
  have HX1 := Aside0.mk hbn
  have HX2 := Aside0.mk hbB
  have HX3 := Aside0.mk hBq
  have HT := Aside0.mk htw
  have HCW := Aside0.mk hcw
  clear hB0w hbn hbB hBq htw hcw
  have BKq := Aside0.mk hq
  have BKc := Aside0.mk hc
  have BKt := Aside0.mk ht
  have BKw := Aside0.mk hw
  have HO := Aside0.mk hR
  have cq : w.cell? ⟨gq, 0, none⟩ = some (.slice (some ⟨go, 0, none⟩) l.length co) := (blk_cell hq 0).trans rfl
  have cc : w.cell? ⟨gc, 0, none⟩ = some (.int .i64 cpu) := (blk_cell hc 0).trans rfl
  have n1 : ¬ gq = gw := by intro e; subst e; rw [hq] at hw; cases hw
  have n2 : ¬ gw = gq := fun e => n1 e.symm
  have n3 : ¬ gc = go := by have := hB0 gc (by simp); omega
  have n4 : ¬ gt = go := by have := hB0 gt (by simp); omega
  have n5 : ¬ gw = go := by have := hB0 gw (by simp); omega
  have n6 : ¬ gq = go := by intro e; subst e; rw [hq] at HG; cases HG
  have n7 : ¬ go = gw := fun e => n5 e.symm
  have HC : Aside0 ((Kd.int .u32).C w (some ⟨go, 0, none⟩) l.length l) := ⟨(Kd.R_reads' hR).2.2⟩
  have HCAP := Aside0.mk (Kd.R_reads' hR).2.1
  have HGo := Aside0.mk hgo
  have HGl := Aside0.mk hgl
  clear hq hR hc ht hw hB0 HG hgo hgl
  have HOF := Aside0.mk hof
  clear hof
  go_enter Try.func50, Try.ntmps50
  go_wp2
  go_region_with (go_at_call 20; refine (pool_Of.calls k _ _ l cpu n0 false _ (Kd.C_drew HC.out) HCAP.out HOF.out).mono ?_; rintro e w2 ⟨rfl, hb⟩; have HBD := Aside0.mk hb; clear hb)
  all_goals
    go_wp2
    go_ret
    exact ⟨rfl, (Below.refl _ w).drew.trans HBD.out⟩
set_option maxHeartbeats 4000000 in
theorem pool_Move1.there (k : Nat) (gq gc gt gw : Nat) (l : List Int) (cpu tt n : Int) (v : Value) (base B0 : Nat) (w : World)
    (hq : w.heap[gq]? = some (.cells #[v] 26 (0, 0))) (hR : Kd.R (Kd.int .u32) 31 w B0 (fun _ => True) v l)
    (hc : w.heap[gc]? = some (.cells #[.int .i64 cpu] 3 (0, 0))) (ht : w.heap[gt]? = some (.cells #[.int .i64 tt] 3 (0, 0))) (hw : w.heap[gw]? = some (.cells #[.int .i64 0] 3 (0, 0)))
    (h0 : 0 ≤ tt) (h1 : tt < l.length) (hl : l.length < 35184372088832) (hB0 : ∀ g, g = gc ∨ g = gt ∨ g = gw → g < B0) (hB0w : B0 ≤ w.heap.size) (hbn : base ≤ gw) (hbB : base ≤ B0) (hBq : B0 ≤ gq) (htw : gt ≠ gw) (hcw : gc ≠ gw) (hof : pool_Of.f k l cpu = some (n, true)) (he : n = tt) :
    Calls Try.prog 50 #[.pointer (some ⟨gq, 0, none⟩), .pointer (some ⟨gc, 0, none⟩), .pointer (some ⟨gt, 0, none⟩), .pointer (some ⟨gw, 0, none⟩)] w fun e W' => e = .returned (.int .i64 5) ∧ Below w.heap.size w W' := by
  obtain ⟨go, co, rfl, hgo, hgl, cl, HG⟩ := Kd.R_form hR (by omega)
  have HX0 := Aside0.mk hB0w
  have HX1 := Aside0.mk hbn
  have HX2 := Aside0.mk hbB
  have HX3 := Aside0.mk hBq
  have HT := Aside0.mk htw
  have HCW := Aside0.mk hcw
  clear hB0w hbn hbB hBq htw hcw
  have BKq := Aside0.mk hq
  have BKc := Aside0.mk hc
  have BKt := Aside0.mk ht
  have BKw := Aside0.mk hw
  have HO := Aside0.mk hR
  have cq : w.cell? ⟨gq, 0, none⟩ = some (.slice (some ⟨go, 0, none⟩) l.length co) := (blk_cell hq 0).trans rfl
  have cc : w.cell? ⟨gc, 0, none⟩ = some (.int .i64 cpu) := (blk_cell hc 0).trans rfl
  have n1 : ¬ gq = gw := by intro e; subst e; rw [hq] at hw; cases hw
  have n2 : ¬ gw = gq := fun e => n1 e.symm
  have n3 : ¬ gc = go := by have := hB0 gc (by simp); omega
  have n4 : ¬ gt = go := by have := hB0 gt (by simp); omega
  have n5 : ¬ gw = go := by have := hB0 gw (by simp); omega
  have n6 : ¬ gq = go := by intro e; subst e; rw [hq] at HG; cases HG
  have n7 : ¬ go = gw := fun e => n5 e.symm
  have HC : Aside0 ((Kd.int .u32).C w (some ⟨go, 0, none⟩) l.length l) := ⟨(Kd.R_reads' hR).2.2⟩
  have HCAP := Aside0.mk (Kd.R_reads' hR).2.1
  have HGo := Aside0.mk hgo
  have HGl := Aside0.mk hgl
  clear hq hR hc ht hw hB0 HG hgo hgl
  have HOF := Aside0.mk hof
  have d1 : (n == tt) = true := beq_iff_eq.mpr he
  clear hof he
  go_enter Try.func50, Try.ntmps50
  go_wp2
  go_region_with (go_at_call 20; refine (pool_Of.calls k _ _ l cpu n true _ (Kd.C_drew HC.out) HCAP.out HOF.out).mono ?_; rintro e w2 ⟨rfl, hb⟩; have HBD := Aside0.mk hb; clear hb)
  all_goals
    have BKq2 := Aside0.mk (blk_below (blk_drew BKq.out) HBD.out)
    have BKt2 := Aside0.mk (blk_below (blk_drew BKt.out) HBD.out)
    have BKw2 := Aside0.mk (blk_below (blk_drew BKw.out) HBD.out)
    have BKc2 := Aside0.mk (blk_below (blk_drew BKc.out) HBD.out)
    have HO2 := Aside0.mk (Kd.R_below (Kd.R_drew HO.out) HBD.out)
    have cq2 : w2.cell? ⟨gq, 0, none⟩ = some (.slice (some ⟨go, 0, none⟩) l.length co) := (blk_cell BKq2.out 0).trans rfl
    have ct2 : w2.cell? ⟨gt, 0, none⟩ = some (.int .i64 tt) := (blk_cell BKt2.out 0).trans rfl
    have cc2 : w2.cell? ⟨gc, 0, none⟩ = some (.int .i64 cpu) := (blk_cell BKc2.out 0).trans rfl
    go_wp2
    go_ret
    exact ⟨rfl, (Below.refl _ w).drew.trans HBD.out⟩
set_option maxHeartbeats 4000000 in
theorem pool_Move1.last (k : Nat) (gq gc gt gw : Nat) (l : List Int) (cpu tt n : Int) (v : Value) (base B0 : Nat) (w : World)
    (hq : w.heap[gq]? = some (.cells #[v] 26 (0, 0))) (hR : Kd.R (Kd.int .u32) 31 w B0 (fun _ => True) v l)
    (hc : w.heap[gc]? = some (.cells #[.int .i64 cpu] 3 (0, 0))) (ht : w.heap[gt]? = some (.cells #[.int .i64 tt] 3 (0, 0))) (hw : w.heap[gw]? = some (.cells #[.int .i64 0] 3 (0, 0)))
    (h0 : 0 ≤ tt) (h1 : tt < l.length) (hl : l.length < 35184372088832) (hB0 : ∀ g, g = gc ∨ g = gt ∨ g = gw → g < B0) (hB0w : B0 ≤ w.heap.size) (hbn : base ≤ gw) (hbB : base ≤ B0) (hBq : B0 ≤ gq) (htw : gt ≠ gw) (hcw : gc ≠ gw) (hof : pool_Of.f k l cpu = some (n, true)) (he : n ≠ tt) (hn0 : 0 ≤ n) (hn1 : n < l.length) (hcn : cpuset_Count.f (rd l n) = some 1) :
    Calls Try.prog 50 #[.pointer (some ⟨gq, 0, none⟩), .pointer (some ⟨gc, 0, none⟩), .pointer (some ⟨gt, 0, none⟩), .pointer (some ⟨gw, 0, none⟩)] w fun e W' => e = .returned (.int .i64 181) ∧ Below w.heap.size w W' := by
  obtain ⟨go, co, rfl, hgo, hgl, cl, HG⟩ := Kd.R_form hR (by omega)
  have HX0 := Aside0.mk hB0w
  have HX1 := Aside0.mk hbn
  have HX2 := Aside0.mk hbB
  have HX3 := Aside0.mk hBq
  have HT := Aside0.mk htw
  have HCW := Aside0.mk hcw
  clear hB0w hbn hbB hBq htw hcw
  have BKq := Aside0.mk hq
  have BKc := Aside0.mk hc
  have BKt := Aside0.mk ht
  have BKw := Aside0.mk hw
  have HO := Aside0.mk hR
  have cq : w.cell? ⟨gq, 0, none⟩ = some (.slice (some ⟨go, 0, none⟩) l.length co) := (blk_cell hq 0).trans rfl
  have cc : w.cell? ⟨gc, 0, none⟩ = some (.int .i64 cpu) := (blk_cell hc 0).trans rfl
  have n1 : ¬ gq = gw := by intro e; subst e; rw [hq] at hw; cases hw
  have n2 : ¬ gw = gq := fun e => n1 e.symm
  have n3 : ¬ gc = go := by have := hB0 gc (by simp); omega
  have n4 : ¬ gt = go := by have := hB0 gt (by simp); omega
  have n5 : ¬ gw = go := by have := hB0 gw (by simp); omega
  have n6 : ¬ gq = go := by intro e; subst e; rw [hq] at HG; cases HG
  have n7 : ¬ go = gw := fun e => n5 e.symm
  have HC : Aside0 ((Kd.int .u32).C w (some ⟨go, 0, none⟩) l.length l) := ⟨(Kd.R_reads' hR).2.2⟩
  have HCAP := Aside0.mk (Kd.R_reads' hR).2.1
  have HGo := Aside0.mk hgo
  have HGl := Aside0.mk hgl
  clear hq hR hc ht hw hB0 HG hgo hgl
  have HOF := Aside0.mk hof
  have HN0 := Aside0.mk hn0
  have HN1 := Aside0.mk hn1
  have HCN := Aside0.mk hcn
  have d1 : (n == tt) = false := beq_eq_false_iff_ne.mpr he
  clear hof he hcn hn0 hn1
  go_enter Try.func50, Try.ntmps50
  go_wp2
  go_region_with (go_at_call 20; refine (pool_Of.calls k _ _ l cpu n true _ (Kd.C_drew HC.out) HCAP.out HOF.out).mono ?_; rintro e w2 ⟨rfl, hb⟩; have HBD := Aside0.mk hb; clear hb)
  all_goals
    have BKq2 := Aside0.mk (blk_below (blk_drew BKq.out) HBD.out)
    have BKt2 := Aside0.mk (blk_below (blk_drew BKt.out) HBD.out)
    have BKw2 := Aside0.mk (blk_below (blk_drew BKw.out) HBD.out)
    have BKc2 := Aside0.mk (blk_below (blk_drew BKc.out) HBD.out)
    have HO2 := Aside0.mk (Kd.R_below (Kd.R_drew HO.out) HBD.out)
    have cq2 : w2.cell? ⟨gq, 0, none⟩ = some (.slice (some ⟨go, 0, none⟩) l.length co) := (blk_cell BKq2.out 0).trans rfl
    have ct2 : w2.cell? ⟨gt, 0, none⟩ = some (.int .i64 tt) := (blk_cell BKt2.out 0).trans rfl
    have cc2 : w2.cell? ⟨gc, 0, none⟩ = some (.int .i64 cpu) := (blk_cell BKc2.out 0).trans rfl
    have d4 : (0 ≤ n) = True := eq_true HN0.out
    have d5 : (n < (l.length : Int)) = True := eq_true HN1.out
    obtain ⟨ce, fe⟩ := Kd.R_celln 0 HO2.out n HN0.out HN1.out
    rw [show rdOf 0 l n = rd l n from rfl] at ce
    go_wp2_with (go_at_call 51; refine (cpuset_Count.calls (rd l n) 1 _ HCN.out).mono ?_; rintro e w3 ⟨rfl, nd, rfl⟩)
    go_ret
    exact ⟨rfl, ((Below.refl _ w).drew.trans HBD.out).trans ((pw_below_drewN (Below.refl _ _) nd).mono HBD.out.size)⟩

set_option maxHeartbeats 4000000 in
theorem pool_Move1.ok (k : Nat) (gq gc gt gw : Nat) (l : List Int) (cpu tt n : Int) (v : Value) (base B0 : Nat) (w : World)
    (hq : w.heap[gq]? = some (.cells #[v] 26 (0, 0))) (hR : Kd.R (Kd.int .u32) 31 w B0 (fun _ => True) v l)
    (hc : w.heap[gc]? = some (.cells #[.int .i64 cpu] 3 (0, 0))) (ht : w.heap[gt]? = some (.cells #[.int .i64 tt] 3 (0, 0))) (hw : w.heap[gw]? = some (.cells #[.int .i64 0] 3 (0, 0)))
    (h0 : 0 ≤ tt) (h1 : tt < l.length) (hl : l.length < 35184372088832) (hB0 : ∀ g, g = gc ∨ g = gt ∨ g = gw → g < B0) (hB0w : B0 ≤ w.heap.size) (hbn : base ≤ gw) (hbB : base ≤ B0) (hBq : B0 ≤ gq) (htw : gt ≠ gw) (hcw : gc ≠ gw) (hof : pool_Of.f k l cpu = some (n, true)) (he : n ≠ tt) (hn0 : 0 ≤ n) (hn1 : n < l.length) (c : Int) (hcn : cpuset_Count.f (rd l n) = some c) (hc1 : c ≠ 1) (hc0 : 0 ≤ cpu) (hc8 : cpu < 8) (b : Int) (hb : shl .u32 1 cpu = b) :
    Calls Try.prog 50 #[.pointer (some ⟨gq, 0, none⟩), .pointer (some ⟨gc, 0, none⟩), .pointer (some ⟨gt, 0, none⟩), .pointer (some ⟨gw, 0, none⟩)] w fun e W' => e = .returned (.int .i64 0) ∧ Below base w W' ∧ W'.heap[gw]? = some (.cells #[.int .i64 n] 3 (0, 0)) ∧ (∀ k, k < w.heap.size → k ≠ gq → k ≠ gw → some k ≠ v.ownBlock → W'.heap[k]? = w.heap[k]?) ∧ ∃ v', W'.heap[gq]? = some (.cells #[v'] 26 (0, 0)) ∧ Kd.R (Kd.int .u32) 31 W' B0 (fun _ => True) v' ((l.set n.toNat (bits .andNot .u32 (rd l n) b)).set tt.toNat (bits .or .u32 (rd l tt) b)) := by
  obtain ⟨go, co, rfl, hgo, hgl, cl, HG⟩ := Kd.R_form hR (by omega)
  have HX0 := Aside0.mk hB0w
  have HX1 := Aside0.mk hbn
  have HX2 := Aside0.mk hbB
  have HX3 := Aside0.mk hBq
  have HT := Aside0.mk htw
  have HCW := Aside0.mk hcw
  clear hB0w hbn hbB hBq htw hcw
  have BKq := Aside0.mk hq
  have BKc := Aside0.mk hc
  have BKt := Aside0.mk ht
  have BKw := Aside0.mk hw
  have HO := Aside0.mk hR
  have cq : w.cell? ⟨gq, 0, none⟩ = some (.slice (some ⟨go, 0, none⟩) l.length co) := (blk_cell hq 0).trans rfl
  have cc : w.cell? ⟨gc, 0, none⟩ = some (.int .i64 cpu) := (blk_cell hc 0).trans rfl
  have n1 : ¬ gq = gw := by intro e; subst e; rw [hq] at hw; cases hw
  have n2 : ¬ gw = gq := fun e => n1 e.symm
  have n3 : ¬ gc = go := by have := hB0 gc (by simp); omega
  have n4 : ¬ gt = go := by have := hB0 gt (by simp); omega
  have n5 : ¬ gw = go := by have := hB0 gw (by simp); omega
  have n6 : ¬ gq = go := by intro e; subst e; rw [hq] at HG; cases HG
  have n7 : ¬ go = gw := fun e => n5 e.symm
  have HC : Aside0 ((Kd.int .u32).C w (some ⟨go, 0, none⟩) l.length l) := ⟨(Kd.R_reads' hR).2.2⟩
  have HCAP := Aside0.mk (Kd.R_reads' hR).2.1
  have HGo := Aside0.mk hgo
  have HGl := Aside0.mk hgl
  clear hq hR hc ht hw hB0 HG hgo hgl
  have HOF := Aside0.mk hof
  have HN0 := Aside0.mk hn0
  have HN1 := Aside0.mk hn1
  have HT0 := Aside0.mk h0
  have HT1 := Aside0.mk h1
  have HCN := Aside0.mk hcn
  have d1 : (n == tt) = false := beq_eq_false_iff_ne.mpr he
  have d2 : (c == 1) = false := beq_eq_false_iff_ne.mpr hc1
  have d3 : (0 ≤ cpu) = True := eq_true hc0
  have d8 : (cpu < 8) = True := eq_true hc8
  have HNE := Aside0.mk he
  have hsb : IntKind.u32.wrap (2 ^ cpu.toNat) = b := by have h_ := shl_small hb (by have : ((IntKind.bits .u32 : Nat) : Int) = 32 := rfl; omega); rw [Int.one_mul] at h_; exact h_
  clear hof he hcn hn0 hn1 hc1 hb h0 h1
  go_enter Try.func50, Try.ntmps50
  go_wp2
  go_region_with (go_at_call 20; refine (pool_Of.calls k _ _ l cpu n true _ (Kd.C_drew HC.out) HCAP.out HOF.out).mono ?_; rintro e w2 ⟨rfl, hb⟩; have HBD := Aside0.mk hb; clear hb)
  all_goals
    have BKq2 := Aside0.mk (blk_below (blk_drew BKq.out) HBD.out)
    have BKt2 := Aside0.mk (blk_below (blk_drew BKt.out) HBD.out)
    have BKw2 := Aside0.mk (blk_below (blk_drew BKw.out) HBD.out)
    have BKc2 := Aside0.mk (blk_below (blk_drew BKc.out) HBD.out)
    have HO2 := Aside0.mk (Kd.R_below (Kd.R_drew HO.out) HBD.out)
    have cq2 : w2.cell? ⟨gq, 0, none⟩ = some (.slice (some ⟨go, 0, none⟩) l.length co) := (blk_cell BKq2.out 0).trans rfl
    have ct2 : w2.cell? ⟨gt, 0, none⟩ = some (.int .i64 tt) := (blk_cell BKt2.out 0).trans rfl
    have cc2 : w2.cell? ⟨gc, 0, none⟩ = some (.int .i64 cpu) := (blk_cell BKc2.out 0).trans rfl
    have d4 : (0 ≤ n) = True := eq_true HN0.out
    have d5 : (n < (l.length : Int)) = True := eq_true HN1.out
    obtain ⟨ce, fe⟩ := Kd.R_celln 0 HO2.out n HN0.out HN1.out
    rw [show rdOf 0 l n = rd l n from rfl] at ce
    have d6 : (0 ≤ tt) = True := eq_true HT0.out
    have d7 : (tt < (l.length : Int)) = True := eq_true HT1.out
    obtain ⟨ce2, fe2⟩ := Kd.R_celln 0 HO2.out tt HT0.out HT1.out
    rw [show rdOf 0 l tt = rd l tt from rfl] at ce2
    have cw2 : w2.cell? ⟨gw, 0, none⟩ = some (.int .i64 0) := (blk_cell BKw2.out 0).trans rfl
    have fw2 := blk_frozen BKw2.out 0
    have n8 : ¬ gc = gw := HCW.out
    have n9 : ¬ gt = gw := HT.out
    go_wp2_with (go_at_call 51; refine (cpuset_Count.calls (rd l n) c _ HCN.out).mono ?_; rintro e w3 ⟨rfl, nd, rfl⟩)
    have HO3 : Aside0 (Kd.R (Kd.int .u32) 31 ((w2.drewN nd).setCell ⟨gw, 0, none⟩ (.int .i64 n)) B0 (fun _ => True) (.slice (some ⟨go, 0, none⟩) l.length co) l) := ⟨Kd.R_set (Kd.R_drewN HO2.out _) (blk_drewN BKw2.out _) (by decide) 0 _⟩
    have BKq3 : Aside0 (((w2.drewN nd).setCell ⟨gw, 0, none⟩ (.int .i64 n)).heap[gq]? = some (.cells #[.slice (some ⟨go, 0, none⟩) l.length co] 26 (0, 0))) := ⟨blk_far (blk_drewN BKq2.out _) (p := ⟨gw, 0, none⟩) n1 _⟩
    have BKt3 : Aside0 (((w2.drewN nd).setCell ⟨gw, 0, none⟩ (.int .i64 n)).heap[gt]? = some (.cells #[.int .i64 tt] 3 (0, 0))) := ⟨blk_far (blk_drewN BKt2.out _) (p := ⟨gw, 0, none⟩) n9 _⟩
    have BKw3 : Aside0 (((w2.drewN nd).setCell ⟨gw, 0, none⟩ (.int .i64 n)).heap[gw]? = some (.cells #[.int .i64 n] 3 (0, 0))) := ⟨blk_put (cs := #[.int .i64 0]) (blk_drewN BKw2.out _) 0 _ rfl⟩
    have FB : Aside0 (Below base w ((w2.drewN nd).setCell ⟨gw, 0, none⟩ (.int .i64 n))) := ⟨((((Below.refl _ w).drew.trans HBD.out).trans ((pw_below_drewN (Below.refl _ _) nd).mono HBD.out.size)).mono (Nat.le_trans HX2.out HX0.out)).setCell (p := ⟨gw, 0, none⟩) HX1.out _⟩
    have FK : Aside0 (∀ k, k < w.heap.size → k ≠ gw → ((w2.drewN nd).setCell ⟨gw, 0, none⟩ (.int .i64 n)).heap[k]? = w.heap[k]?) := ⟨fun k k1 k2 => (Below.heap_setCell _ ⟨gw, 0, none⟩ _ k k2).trans (HBD.out.block k k1)⟩
    generalize (w2.drewN nd).setCell ⟨gw, 0, none⟩ (.int .i64 n) = w4 at HO3 BKq3 BKt3 BKw3 FB FK ⊢
    clear ce ce2 fe fe2 cq2 ct2 cc2 cw2 fw2 hsb
    have cq2 : w4.cell? ⟨gq, 0, none⟩ = some (.slice (some ⟨go, 0, none⟩) l.length co) := (blk_cell BKq3.out 0).trans rfl
    have ct2 : w4.cell? ⟨gt, 0, none⟩ = some (.int .i64 tt) := (blk_cell BKt3.out 0).trans rfl
    obtain ⟨ce, fe⟩ := Kd.R_celln 0 HO3.out n HN0.out HN1.out
    rw [show rdOf 0 l n = rd l n from rfl] at ce
    obtain ⟨ce2, fe2⟩ := Kd.R_celln 0 HO3.out tt HT0.out HT1.out
    rw [show rdOf 0 l tt = rd l tt from rfl] at ce2
    have n10 : ¬ n.toNat = tt.toNat := by have := HN0.out; have := HT0.out; have := HNE.out; omega
    have n11 : ¬ tt.toNat = n.toNat := fun e_ => n10 e_.symm
    go_region
    all_goals
      go_wp2
      go_ret
      refine ⟨rfl, ?_, ?_, ?_, .slice (some ⟨go, 0, none⟩) l.length co, ?_, ?_⟩
      · exact ((FB.out.setCell (p := ⟨go, n.toNat, none⟩) (Nat.le_trans HX2.out HGo.out) _).setCell (p := ⟨go, tt.toNat, none⟩) (Nat.le_trans HX2.out HGo.out) _).drew
      · exact blk_drew (blk_far (blk_far BKw3.out (p := ⟨go, n.toNat, none⟩) n5 _) (p := ⟨go, tt.toNat, none⟩) n5 _)
      · exact fun k_ k1 k2 k3 k4 => (Below.heap_setCell _ ⟨go, tt.toNat, none⟩ _ k_ (fun e_ => k4 (by rw [e_]; rfl))).trans ((Below.heap_setCell _ ⟨go, n.toNat, none⟩ _ k_ (fun e_ => k4 (by rw [e_]; rfl))).trans (FK.out k_ k1 k3))
      · exact blk_drew (blk_far (blk_far BKq3.out (p := ⟨go, n.toNat, none⟩) n6 _) (p := ⟨go, tt.toNat, none⟩) n6 _)
      · exact Kd.R_drew (Kd.R_putn (Kd.R_putn HO3.out n _) tt _)

def moveDo (k : Nat) (l : List Int) (cpu tt : Int) : Option (Int × List Int × Int) :=
  (pool_Of.f k l cpu).bind fun x => if x.2 = false then some (2, [], 0) else if x.1 = tt then some (5, [], 0) else if 0 ≤ x.1 ∧ x.1 < l.length ∧ 0 ≤ cpu ∧ cpu < 8 then (cpuset_Count.f (rd l x.1)).bind fun c => if c = 1 then some (181, [], 0) else some (0, (l.set x.1.toNat (bits .andNot .u32 (rd l x.1) (shl .u32 1 cpu))).set tt.toNat (bits .or .u32 (rd l tt) (shl .u32 1 cpu)), x.1) else none
theorem pool_Move1.any (k : Nat) (gq gc gt gw : Nat) (l : List Int) (cpu tt : Int) (v : Value) (base B0 : Nat) (w : World) (err n : Int) (l' : List Int)
    (hq : w.heap[gq]? = some (.cells #[v] 26 (0, 0))) (hR : Kd.R (Kd.int .u32) 31 w B0 (fun _ => True) v l)
    (hc : w.heap[gc]? = some (.cells #[.int .i64 cpu] 3 (0, 0))) (ht : w.heap[gt]? = some (.cells #[.int .i64 tt] 3 (0, 0))) (hw : w.heap[gw]? = some (.cells #[.int .i64 0] 3 (0, 0)))
    (h0 : 0 ≤ tt) (h1 : tt < l.length) (hl : l.length < 35184372088832) (hB0 : ∀ g, g = gc ∨ g = gt ∨ g = gw → g < B0) (hB0w : B0 ≤ w.heap.size) (hbn : base ≤ gw) (hbB : base ≤ B0) (hBq : B0 ≤ gq) (htw : gt ≠ gw) (hcw : gc ≠ gw) (h : moveDo k l cpu tt = some (err, l', n)) :
    Calls Try.prog 50 #[.pointer (some ⟨gq, 0, none⟩), .pointer (some ⟨gc, 0, none⟩), .pointer (some ⟨gt, 0, none⟩), .pointer (some ⟨gw, 0, none⟩)] w fun e W' => e = .returned (.int .i64 err) ∧ Below base w W' ∧ W'.heap[gw]? = some (.cells #[.int .i64 n] 3 (0, 0)) ∧ (∀ k, k < w.heap.size → k ≠ gq → k ≠ gw → some k ≠ v.ownBlock → W'.heap[k]? = w.heap[k]?) ∧ (err = 0 → ∃ v', W'.heap[gq]? = some (.cells #[v'] 26 (0, 0)) ∧ Kd.R (Kd.int .u32) 31 W' B0 (fun _ => True) v' l') := by
  have still : ∀ (er : Int), er ≠ 0 → er = err → 0 = n → ∀ (e : Ending) (W' : World), (e = .returned (.int .i64 er) ∧ Below w.heap.size w W') → e = .returned (.int .i64 err) ∧ Below base w W' ∧ W'.heap[gw]? = some (.cells #[.int .i64 n] 3 (0, 0)) ∧ (∀ k, k < w.heap.size → k ≠ gq → k ≠ gw → some k ≠ v.ownBlock → W'.heap[k]? = w.heap[k]?) ∧ (err = 0 → ∃ v', W'.heap[gq]? = some (.cells #[v'] 26 (0, 0)) ∧ Kd.R (Kd.int .u32) 31 W' B0 (fun _ => True) v' l') := by
    rintro er h1 rfl rfl e W' ⟨rfl, hb⟩
    exact ⟨rfl, hb.mono (Nat.le_trans hbB hB0w), blk_below hw hb, fun k k1 _ _ _ => hb.block k k1, fun h => absurd h h1⟩
  unfold moveDo at h
  obtain ⟨⟨n0, b⟩, hof, h⟩ := Option.bind_eq_some_iff.mp h
  dsimp only at h
  cases b
  · rw [if_pos rfl] at h
    injection h with h; injection h with e1 h; injection h with e2 e3
    exact (pool_Move1.lacks k gq gc gt gw l cpu tt n v base B0 w hq hR hc ht hw h0 h1 hl hB0 hB0w hbn hbB hBq htw hcw n0 hof).mono (fun e W' => still 2 (by decide) e1 e3 e W')
  rw [if_neg (by simp)] at h
  by_cases he : n0 = tt
  · rw [if_pos he] at h
    injection h with h; injection h with e1 h; injection h with e2 e3
    exact (pool_Move1.there k gq gc gt gw l cpu tt n0 v base B0 w hq hR hc ht hw h0 h1 hl hB0 hB0w hbn hbB hBq htw hcw hof he).mono (fun e W' => still 5 (by decide) e1 e3 e W')
  rw [if_neg he] at h
  split at h
  case isFalse => cases h
  case isTrue hn =>
  obtain ⟨hn0, hn1, hc0, hc8⟩ := hn
  obtain ⟨c, hcn, h⟩ := Option.bind_eq_some_iff.mp h
  by_cases c1 : c = 1
  · subst c1
    rw [if_pos rfl] at h
    injection h with h; injection h with e1 h; injection h with e2 e3
    exact (pool_Move1.last k gq gc gt gw l cpu tt n0 v base B0 w hq hR hc ht hw h0 h1 hl hB0 hB0w hbn hbB hBq htw hcw hof he hn0 hn1 hcn).mono (fun e W' => still 181 (by decide) e1 e3 e W')
  rw [if_neg c1] at h
  injection h with h; injection h with e1 h; injection h with e2 e3
  subst e1 e2 e3
  refine (pool_Move1.ok k gq gc gt gw l cpu tt n0 v base B0 w hq hR hc ht hw h0 h1 hl hB0 hB0w hbn hbB hBq htw hcw hof he hn0 hn1 c hcn c1 hc0 hc8 _ rfl).mono ?_
  rintro e W' ⟨rfl, a1, a2, a3, a4⟩
  exact ⟨rfl, a1, a2, a3, fun _ => a4⟩
set_option maxHeartbeats 4000000 in
theorem pool_Move.does (k : Nat) (ad : Addr) (c0 : Nat) (l : List Int) (a b err n : Int) (l' : List Int) (w : World) (hr : Kd.C (Kd.int .u32) w (some ad) l.length l) (hc : l.length ≤ c0) (hl : l.length < 35184372088832)
    (hec : pool_Check.f k l = some 0) (hp : pool_pool.f l [b] = some true) (h0 : 0 ≤ b) (h1 : b < l.length) (hs : moveDo k l a b = some (err, l', n)) (L : List Int) (hL : L = if err = 0 then l' else []) :
    Calls Try.prog 31 #[.agg #[.slice (some ad) l.length c0], .int .i64 a, .int .i64 b] w fun e w' => ∃ v0_ : Value, e = .returned (.tuple #[.agg #[v0_], .int .i64 n, .int .i64 err]) ∧ Kd.R (Kd.int .u32) 31 w' w.heap.size (fun _ => True) v0_ L ∧ Below w.heap.size w w' := by
  have HLL := Aside0.mk hL
  clear hL
  have HR := Aside0.mk hr
  have HC := Aside0.mk hc
  have HE := Aside0.mk hec
  have HP := Aside0.mk hp
  have HL := Aside0.mk hl
  have HS := Aside0.mk hs
  have H0 := Aside0.mk h0
  have H1 := Aside0.mk h1
  have EG := Aside0.mk (enters_ Try.func50 (by kernel_rfl) rfl)
  clear hr hc hec hp hl hs h0 h1
  have HB := Aside0.mk (Below.refl w.heap.size w)
  go_enter Try.func31, Try.ntmps31
  go_wp2_with (first
    | ((with_reducible refine gate_dst (N := 3) rfl ?_); refine box_event ?hg (N := 3) ?hd (cs := #[.slice (some ad) l.length c0]) (t := 26) ?hr ?_; (case hd => rfl); (case hg => rfl); (case hr => first | (go_simp; done) | (go_simp; rfl)); intro gbp hg wbp hbox hb; have m0_ := Aside0.mk (below_step HB.out hb); have m1_ := Aside0.mk (hbox); have m2_ := Aside0.mk ((by rw [hg]; exact HB.out.size : w.heap.size ≤ gbp)); (try clear HB); have HB := m0_; have BKp := m1_; have GEp := m2_; clear m0_ m1_ m2_; clear hb hbox hg)
    | ((with_reducible refine gate_dst (N := 4) rfl ?_); refine box_event ?hg (N := 4) ?hd (cs := #[.int .i64 a]) (t := 3) ?hr ?_; (case hd => rfl); (case hg => rfl); (case hr => first | (go_simp; done) | (go_simp; rfl)); intro gba hg wba hbox hb; have m0_ := Aside0.mk (blk_below (g := gbp) (o := .cells #[.slice (some ad) l.length c0] 26 (0, 0)) BKp.out hb); have m1_ := Aside0.mk (below_step HB.out hb); have m2_ := Aside0.mk (hbox); have m3_ := Aside0.mk ((by rw [hg]; exact HB.out.size : w.heap.size ≤ gba)); have m4_ := Aside0.mk ((by rw [hg]; exact Nat.ne_of_lt (blk_lt BKp.out) : gbp ≠ gba)); have m5_ := Aside0.mk ((by rw [hg]; exact Nat.ne_of_gt (blk_lt BKp.out) : gba ≠ gbp)); (try clear BKp); (try clear HB); have BKp := m0_; have HB := m1_; have BKa := m2_; have GEa := m3_; have NBp_a := m4_; have NBa_p := m5_; clear m0_ m1_ m2_ m3_ m4_ m5_; clear hb hbox hg)
    | ((with_reducible refine gate_dst (N := 5) rfl ?_); refine box_event ?hg (N := 5) ?hd (cs := #[.int .i64 b]) (t := 3) ?hr ?_; (case hd => rfl); (case hg => rfl); (case hr => first | (go_simp; done) | (go_simp; rfl)); intro gbb hg wbb hbox hb; have m0_ := Aside0.mk (blk_below (g := gbp) (o := .cells #[.slice (some ad) l.length c0] 26 (0, 0)) BKp.out hb); have m1_ := Aside0.mk (blk_below (g := gba) (o := .cells #[.int .i64 a] 3 (0, 0)) BKa.out hb); have m2_ := Aside0.mk (below_step HB.out hb); have m3_ := Aside0.mk (hbox); have m4_ := Aside0.mk ((by rw [hg]; exact HB.out.size : w.heap.size ≤ gbb)); have m5_ := Aside0.mk ((by rw [hg]; exact Nat.ne_of_lt (blk_lt BKp.out) : gbp ≠ gbb)); have m6_ := Aside0.mk ((by rw [hg]; exact Nat.ne_of_gt (blk_lt BKp.out) : gbb ≠ gbp)); have m7_ := Aside0.mk ((by rw [hg]; exact Nat.ne_of_lt (blk_lt BKa.out) : gba ≠ gbb)); have m8_ := Aside0.mk ((by rw [hg]; exact Nat.ne_of_gt (blk_lt BKa.out) : gbb ≠ gba)); (try clear BKp); (try clear BKa); (try clear HB); have BKp := m0_; have BKa := m1_; have HB := m2_; have BKb := m3_; have GEb := m4_; have NBp_b := m5_; have NBb_p := m6_; have NBa_b := m7_; have NBb_a := m8_; clear m0_ m1_ m2_ m3_ m4_ m5_ m6_ m7_ m8_; clear hb hbox hg)
    | ((with_reducible refine gate_dst (N := 6) rfl ?_); refine box_event ?hg (N := 6) ?hd (cs := #[.slice none 0 0]) (t := 26) ?hr ?_; (case hd => rfl); (case hg => rfl); (case hr => first | (go_simp; done) | (go_simp; rfl)); intro gbq hg wbq hbox hb; have m0_ := Aside0.mk (blk_below (g := gbp) (o := .cells #[.slice (some ad) l.length c0] 26 (0, 0)) BKp.out hb); have m1_ := Aside0.mk (blk_below (g := gba) (o := .cells #[.int .i64 a] 3 (0, 0)) BKa.out hb); have m2_ := Aside0.mk (blk_below (g := gbb) (o := .cells #[.int .i64 b] 3 (0, 0)) BKb.out hb); have m3_ := Aside0.mk (below_step HB.out hb); have m4_ := Aside0.mk (hbox); have m5_ := Aside0.mk ((by rw [hg]; exact HB.out.size : w.heap.size ≤ gbq)); have m6_ := Aside0.mk ((by rw [hg]; exact Nat.ne_of_lt (blk_lt BKp.out) : gbp ≠ gbq)); have m7_ := Aside0.mk ((by rw [hg]; exact Nat.ne_of_gt (blk_lt BKp.out) : gbq ≠ gbp)); have m8_ := Aside0.mk ((by rw [hg]; exact Nat.ne_of_lt (blk_lt BKa.out) : gba ≠ gbq)); have m9_ := Aside0.mk ((by rw [hg]; exact Nat.ne_of_gt (blk_lt BKa.out) : gbq ≠ gba)); have m10_ := Aside0.mk ((by rw [hg]; exact Nat.ne_of_lt (blk_lt BKb.out) : gbb ≠ gbq)); have m11_ := Aside0.mk ((by rw [hg]; exact Nat.ne_of_gt (blk_lt BKb.out) : gbq ≠ gbb)); (try clear BKp); (try clear BKa); (try clear BKb); (try clear HB); have BKp := m0_; have BKa := m1_; have BKb := m2_; have HB := m3_; have BKq := m4_; have GEq := m5_; have NBp_q := m6_; have NBq_p := m7_; have NBa_q := m8_; have NBq_a := m9_; have NBb_q := m10_; have NBq_b := m11_; clear m0_ m1_ m2_ m3_ m4_ m5_ m6_ m7_ m8_ m9_ m10_ m11_; clear hb hbox hg)
    | ((with_reducible refine gate_dst (N := 9) rfl ?_); refine box_event ?hg (N := 9) ?hd (cs := #[.int .i64 0]) (t := 3) ?hr ?_; (case hd => rfl); (case hg => rfl); (case hr => first | (go_simp; done) | (go_simp; rfl)); intro gbn hg wbn hbox hb; have m0_ := Aside0.mk (blk_below (g := gbp) (o := .cells #[.slice (some ad) l.length c0] 26 (0, 0)) BKp.out hb); have m1_ := Aside0.mk (blk_below (g := gba) (o := .cells #[.int .i64 a] 3 (0, 0)) BKa.out hb); have m2_ := Aside0.mk (blk_below (g := gbb) (o := .cells #[.int .i64 b] 3 (0, 0)) BKb.out hb); have m3_ := Aside0.mk (blk_below (g := gbq) (o := .cells #[.slice none 0 0] 26 (0, 0)) BKq.out hb); have m4_ := Aside0.mk (below_step HB.out hb); have m5_ := Aside0.mk (hbox); have m6_ := Aside0.mk ((by rw [hg]; exact HB.out.size : w.heap.size ≤ gbn)); have m7_ := Aside0.mk ((by rw [hg]; exact Nat.ne_of_lt (blk_lt BKp.out) : gbp ≠ gbn)); have m8_ := Aside0.mk ((by rw [hg]; exact Nat.ne_of_gt (blk_lt BKp.out) : gbn ≠ gbp)); have m9_ := Aside0.mk ((by rw [hg]; exact Nat.ne_of_lt (blk_lt BKa.out) : gba ≠ gbn)); have m10_ := Aside0.mk ((by rw [hg]; exact Nat.ne_of_gt (blk_lt BKa.out) : gbn ≠ gba)); have m11_ := Aside0.mk ((by rw [hg]; exact Nat.ne_of_lt (blk_lt BKb.out) : gbb ≠ gbn)); have m12_ := Aside0.mk ((by rw [hg]; exact Nat.ne_of_gt (blk_lt BKb.out) : gbn ≠ gbb)); have m13_ := Aside0.mk ((by rw [hg]; exact Nat.ne_of_lt (blk_lt BKq.out) : gbq ≠ gbn)); have m14_ := Aside0.mk ((by rw [hg]; exact Nat.ne_of_gt (blk_lt BKq.out) : gbn ≠ gbq)); (try clear BKp); (try clear BKa); (try clear BKb); (try clear BKq); (try clear HB); have BKp := m0_; have BKa := m1_; have BKb := m2_; have BKq := m3_; have HB := m4_; have BKn := m5_; have GEn := m6_; have NBp_n := m7_; have NBn_p := m8_; have NBa_n := m9_; have NBn_a := m10_; have NBb_n := m11_; have NBn_b := m12_; have NBq_n := m13_; have NBn_q := m14_; clear m0_ m1_ m2_ m3_ m4_ m5_ m6_ m7_ m8_ m9_ m10_ m11_ m12_ m13_ m14_; clear hb hbox hg; have hcz1_n_0 : World.cell? _ ⟨gbn, 0, none⟩ = some (.int .i64 0) := (blk_cell BKn.out 0).trans rfl; have hfz1_n := blk_frozen BKn.out 0)
    | ((with_reducible refine gate_store (t := 3) (p := 9) rfl ?_); refine store_event (t := 3) (p := 9) (v := ?vo_ws2) (w1 := (wbn.setCell ⟨gbn, 0, none⟩ (.int .i64 0))) ?hg ?ho ?hn ?hr ?_; (case ho => rfl); (case hg => rfl); (case hn => rfl); (case hr => first | (go_simp; done) | (go_simp; rfl)); intro ws2 hw; have m0_ := Aside0.mk ((show ws2.heap[gbp]? = some (.cells #[.slice (some ad) l.length c0] 26 (0, 0)) by rw [hw]; exact blk_far BKp.out (p := ⟨gbn, 0, none⟩) NBp_n.out _)); have m1_ := Aside0.mk ((show ws2.heap[gba]? = some (.cells #[.int .i64 a] 3 (0, 0)) by rw [hw]; exact blk_far BKa.out (p := ⟨gbn, 0, none⟩) NBa_n.out _)); have m2_ := Aside0.mk ((show ws2.heap[gbb]? = some (.cells #[.int .i64 b] 3 (0, 0)) by rw [hw]; exact blk_far BKb.out (p := ⟨gbn, 0, none⟩) NBb_n.out _)); have m3_ := Aside0.mk ((show ws2.heap[gbq]? = some (.cells #[.slice none 0 0] 26 (0, 0)) by rw [hw]; exact blk_far BKq.out (p := ⟨gbn, 0, none⟩) NBq_n.out _)); have m4_ := Aside0.mk ((show ws2.heap[gbn]? = some (.cells #[.int .i64 0] 3 (0, 0)) by rw [hw]; exact blk_put (cs := #[.int .i64 0]) BKn.out 0 _ rfl)); have m5_ := Aside0.mk ((show Below w.heap.size w ws2 by rw [hw]; exact below_set HB.out GEn.out)); clear hw; clear BKp; clear BKa; clear BKb; clear BKq; clear BKn; clear HB; have BKp := m0_; have BKa := m1_; have BKb := m2_; have BKq := m3_; have BKn := m4_; have HB := m5_; clear m0_ m1_ m2_ m3_ m4_ m5_; have hcz3_p_0 : World.cell? _ ⟨gbp, 0, none⟩ = some (.slice (some ad) l.length c0) := (blk_cell BKp.out 0).trans rfl; have hfz3_p := blk_frozen BKp.out 0; have hcz3_a_0 : World.cell? _ ⟨gba, 0, none⟩ = some (.int .i64 a) := (blk_cell BKa.out 0).trans rfl; have hfz3_a := blk_frozen BKa.out 0; have hcz3_b_0 : World.cell? _ ⟨gbb, 0, none⟩ = some (.int .i64 b) := (blk_cell BKb.out 0).trans rfl; have hfz3_b := blk_frozen BKb.out 0)
    | ((with_reducible refine gate_dst (N := 16) rfl ?_); refine Kd.R_lit (Kd.int .i64) _ 3 ?hg (N := 16) ?hd (xs := ([b] : List Int)) (inner := [.int .i64 b]) (ok := fun _ => True) (okp := fun _ => True) ?hr ?hp (fun _ hk => hk) trivial (Below.refl _ _) (Nat.le_refl _) (by simp) ?_; (case hd => rfl); (case hg => rfl); (case hr => first | (go_simp; done) | (go_simp; rfl)); (case hp => exact (Reps.one (show Kd.M (Kd.int .i64) _ _ _ b [.int .i64 b] from rfl) (Reps.none _ _))); intro vns wl4 ho_ hb hg_ hnew_; clear hg_ hnew_; have m0_ := Aside0.mk (blk_below (g := gbp) (o := .cells #[.slice (some ad) l.length c0] 26 (0, 0)) BKp.out hb); have m1_ := Aside0.mk (blk_below (g := gba) (o := .cells #[.int .i64 a] 3 (0, 0)) BKa.out hb); have m2_ := Aside0.mk (blk_below (g := gbb) (o := .cells #[.int .i64 b] 3 (0, 0)) BKb.out hb); have m3_ := Aside0.mk (blk_below (g := gbq) (o := .cells #[.slice none 0 0] 26 (0, 0)) BKq.out hb); have m4_ := Aside0.mk (blk_below (g := gbn) (o := .cells #[.int .i64 0] 3 (0, 0)) BKn.out hb); have m5_ := Aside0.mk (below_step HB.out hb); have m6_ := Aside0.mk (Kd.R_lower ho_ HB.out.size); (try clear BKp); (try clear BKa); (try clear BKb); (try clear BKq); (try clear BKn); (try clear HB); have BKp := m0_; have BKa := m1_; have BKb := m2_; have BKq := m3_; have BKn := m4_; have HB := m5_; have HOns := m6_; clear m0_ m1_ m2_ m3_ m4_ m5_ m6_; clear hb ho_; obtain ⟨Ans, cns, ens⟩ := Kd.R_slice HOns.out; subst ens)
    | (go_at_call 45; (refine (pool_with.does 50 #[.pointer (some ⟨gba, 0, none⟩), .pointer (some ⟨gbb, 0, none⟩), .pointer (some ⟨gbn, 0, none⟩)] EG.out w.heap.size (fun k_ => k_ = gbn) k ad c0 l _ _ [b] _ ?s1 HC.out ?s2 ?s3 HB.out.size ?s4 HE.out HP.out HL.out err l' (fun W_ => W_.heap[gbn]? = some (.cells #[.int .i64 n] 3 (0, 0))) ?s5 ?s6).mono ?_); (case s1 => exact Kd.C_below HR.out HB.out); (case s2 => exact (Kd.R_reads' HOns.out).2.2); (case s3 => exact (Kd.R_reads' HOns.out).2.1); (case s4 => exact fun k_ e_ => e_ ▸ blk_lt BKn.out); (case s5 => exact fun W_ W2_ h1_ h2_ => (h2_ gbn rfl).trans h1_); (case s6 => exact fun W_ gq_ v_ b_ q_ bq_ r_ => pool_Move1.any k gq_ gba gbb gbn l a b v_ w.heap.size _ W_ err n l' bq_ r_ (blk_below BKa.out b_) (blk_below BKb.out b_) (blk_below BKn.out b_) H0.out H1.out HL.out (fun g_ h_ => by rcases h_ with rfl | rfl | rfl; exact blk_lt BKa.out; exact blk_lt BKb.out; exact blk_lt BKn.out) b_.size GEn.out HB.out.size q_ NBb_n.out NBa_n.out HS.out); rintro e wr ⟨v, rfl, ho_, hbl_, hj_, hk_⟩; rw [← HLL.out] at ho_; clear HOns; clear hcz3_p_0 hfz3_p hcz3_a_0 hfz3_a hcz3_b_0 hfz3_b; have m0_ := Aside0.mk ((hk_ gbp (blk_lt BKp.out) NBp_n.out).trans BKp.out); have m1_ := Aside0.mk ((hk_ gba (blk_lt BKa.out) NBa_n.out).trans BKa.out); have m2_ := Aside0.mk ((hk_ gbb (blk_lt BKb.out) NBb_n.out).trans BKb.out); have m3_ := Aside0.mk ((hk_ gbq (blk_lt BKq.out) NBq_n.out).trans BKq.out); have m4_ := Aside0.mk (hj_); have m5_ := Aside0.mk (HB.out.trans hbl_); have m6_ := Aside0.mk (Kd.R_lower ho_ HB.out.size); (try clear BKp); (try clear BKa); (try clear BKb); (try clear BKq); (try clear BKn); (try clear HB); have BKp := m0_; have BKa := m1_; have BKb := m2_; have BKq := m3_; have BKn := m4_; have HB := m5_; have HOv := m6_; clear m0_ m1_ m2_ m3_ m4_ m5_ m6_; clear ho_ hbl_ hj_ hk_; obtain ⟨Av, cv, ev⟩ := Kd.R_slice HOv.out; subst ev)
    | ((with_reducible refine gate_dst (N := 10) rfl ?_); refine box_event ?hg (N := 10) ?hd (cs := #[.slice none 0 0]) (t := 26) ?hr ?_; (case hd => rfl); (case hg => rfl); (case hr => first | (go_simp; done) | (go_simp; rfl)); intro gbt hg wbt hbox hb; have m0_ := Aside0.mk (blk_below (g := gbp) (o := .cells #[.slice (some ad) l.length c0] 26 (0, 0)) BKp.out hb); have m1_ := Aside0.mk (blk_below (g := gba) (o := .cells #[.int .i64 a] 3 (0, 0)) BKa.out hb); have m2_ := Aside0.mk (blk_below (g := gbb) (o := .cells #[.int .i64 b] 3 (0, 0)) BKb.out hb); have m3_ := Aside0.mk (blk_below (g := gbq) (o := .cells #[.slice none 0 0] 26 (0, 0)) BKq.out hb); have m4_ := Aside0.mk (blk_below (g := gbn) (o := .cells #[.int .i64 n] 3 (0, 0)) BKn.out hb); have m5_ := Aside0.mk (Kd.R_below HOv.out hb); have m6_ := Aside0.mk (below_step HB.out hb); have m7_ := Aside0.mk (hbox); have m8_ := Aside0.mk ((by rw [hg]; exact HB.out.size : w.heap.size ≤ gbt)); have m9_ := Aside0.mk ((by rw [hg]; exact Nat.ne_of_lt (blk_lt BKp.out) : gbp ≠ gbt)); have m10_ := Aside0.mk ((by rw [hg]; exact Nat.ne_of_gt (blk_lt BKp.out) : gbt ≠ gbp)); have m11_ := Aside0.mk ((by rw [hg]; exact Nat.ne_of_lt (blk_lt BKa.out) : gba ≠ gbt)); have m12_ := Aside0.mk ((by rw [hg]; exact Nat.ne_of_gt (blk_lt BKa.out) : gbt ≠ gba)); have m13_ := Aside0.mk ((by rw [hg]; exact Nat.ne_of_lt (blk_lt BKb.out) : gbb ≠ gbt)); have m14_ := Aside0.mk ((by rw [hg]; exact Nat.ne_of_gt (blk_lt BKb.out) : gbt ≠ gbb)); have m15_ := Aside0.mk ((by rw [hg]; exact Nat.ne_of_lt (blk_lt BKq.out) : gbq ≠ gbt)); have m16_ := Aside0.mk ((by rw [hg]; exact Nat.ne_of_gt (blk_lt BKq.out) : gbt ≠ gbq)); have m17_ := Aside0.mk ((by rw [hg]; exact Nat.ne_of_lt (blk_lt BKn.out) : gbn ≠ gbt)); have m18_ := Aside0.mk ((by rw [hg]; exact Nat.ne_of_gt (blk_lt BKn.out) : gbt ≠ gbn)); (try clear BKp); (try clear BKa); (try clear BKb); (try clear BKq); (try clear BKn); (try clear HOv); (try clear HB); have BKp := m0_; have BKa := m1_; have BKb := m2_; have BKq := m3_; have BKn := m4_; have HOv := m5_; have HB := m6_; have BKt := m7_; have GEt := m8_; have NBp_t := m9_; have NBt_p := m10_; have NBa_t := m11_; have NBt_a := m12_; have NBb_t := m13_; have NBt_b := m14_; have NBq_t := m15_; have NBt_q := m16_; have NBn_t := m17_; have NBt_n := m18_; clear m0_ m1_ m2_ m3_ m4_ m5_ m6_ m7_ m8_ m9_ m10_ m11_ m12_ m13_ m14_ m15_ m16_ m17_ m18_; clear hb hbox hg; have hcz5_t_0 : World.cell? _ ⟨gbt, 0, none⟩ = some (.slice none 0 0) := (blk_cell BKt.out 0).trans rfl; have hfz5_t := blk_frozen BKt.out 0)
    | ((with_reducible refine gate_store (t := 26) (p := 10) rfl ?_); refine store_event (t := 26) (p := 10) (v := ?vo_ws6) (w1 := (wbt.setCell ⟨gbt, 0, none⟩ (.slice Av (L).length cv))) ?hg ?ho ?hn ?hr ?_; (case ho => rfl); (case hg => rfl); (case hn => rfl); (case hr => first | (go_simp; done) | (go_simp; rfl)); intro ws6 hw; have m0_ := Aside0.mk ((show ws6.heap[gbp]? = some (.cells #[.slice (some ad) l.length c0] 26 (0, 0)) by rw [hw]; exact blk_far BKp.out (p := ⟨gbt, 0, none⟩) NBp_t.out _)); have m1_ := Aside0.mk ((show ws6.heap[gba]? = some (.cells #[.int .i64 a] 3 (0, 0)) by rw [hw]; exact blk_far BKa.out (p := ⟨gbt, 0, none⟩) NBa_t.out _)); have m2_ := Aside0.mk ((show ws6.heap[gbb]? = some (.cells #[.int .i64 b] 3 (0, 0)) by rw [hw]; exact blk_far BKb.out (p := ⟨gbt, 0, none⟩) NBb_t.out _)); have m3_ := Aside0.mk ((show ws6.heap[gbq]? = some (.cells #[.slice none 0 0] 26 (0, 0)) by rw [hw]; exact blk_far BKq.out (p := ⟨gbt, 0, none⟩) NBq_t.out _)); have m4_ := Aside0.mk ((show ws6.heap[gbn]? = some (.cells #[.int .i64 n] 3 (0, 0)) by rw [hw]; exact blk_far BKn.out (p := ⟨gbt, 0, none⟩) NBn_t.out _)); have m5_ := Aside0.mk ((show ws6.heap[gbt]? = some (.cells #[.slice Av (L).length cv] 26 (0, 0)) by rw [hw]; exact blk_put (cs := #[.slice none 0 0]) BKt.out 0 _ rfl)); have m6_ := Aside0.mk ((show Kd.R (Kd.int .u32) 31 ws6 w.heap.size (fun _ => True) (.slice Av (L).length cv) L by rw [hw]; exact Kd.R_set HOv.out BKt.out (by decide) 0 _)); have m7_ := Aside0.mk ((show Below w.heap.size w ws6 by rw [hw]; exact below_set HB.out GEt.out)); clear hw; clear BKp; clear BKa; clear BKb; clear BKq; clear BKn; clear BKt; clear HOv; clear HB; have BKp := m0_; have BKa := m1_; have BKb := m2_; have BKq := m3_; have BKn := m4_; have BKt := m5_; have HOv := m6_; have HB := m7_; clear m0_ m1_ m2_ m3_ m4_ m5_ m6_ m7_; have hcz7_t_0 : World.cell? _ ⟨gbt, 0, none⟩ = some (.slice Av (L).length cv) := (blk_cell BKt.out 0).trans rfl; have hfz7_t := blk_frozen BKt.out 0; have hcz7_n_0 : World.cell? _ ⟨gbn, 0, none⟩ = some (.int .i64 n) := (blk_cell BKn.out 0).trans rfl; have hfz7_n := blk_frozen BKn.out 0; have hcz7_q_0 : World.cell? _ ⟨gbq, 0, none⟩ = some (.slice none 0 0) := (blk_cell BKq.out 0).trans rfl; have hfz7_q := blk_frozen BKq.out 0; have hne1_ := NBt_q.out; have hne2_ := NBq_t.out; have hne3_ := NBn_q.out; have hne4_ := NBq_n.out))
  go_region
  go_wp2
  refine bodyPost_ret (results_ctt rfl _ _ gbq 26 #[.slice Av (L).length cv] (0, 0) _ rfl (blk_put (cs := #[.slice none 0 0]) (blk_drew BKq.out) 0 _ rfl) Try.underlying26 rfl (by kernel_rfl)) rfl ?_
  exact ⟨_, rfl, Kd.R_set (Kd.R_drew HOv.out) (blk_drew BKq.out) (by decide) 0 _, (HB.out.drew).setCell GEq.out _⟩
set_option maxHeartbeats 4000000 in
theorem pool_Move.bad (k : Nat) (A0 : Option Addr) (c0 : Nat) (l : List Int) (a b : Int) (w : World) (hr : Kd.C (Kd.int .u32) w A0 l.length l) (hc : l.length ≤ c0) (e1 : Int) (hec : pool_Check.f k l = some e1) (hp : e1 ≠ 0) :
    Calls Try.prog 31 #[.agg #[.slice A0 l.length c0], .int .i64 a, .int .i64 b] w fun e w' => ∃ v0_ : Value, e = .returned (.tuple #[.agg #[v0_], .int .i64 0, .int .i64 e1]) ∧ Kd.R (Kd.int .u32) 31 w' w.heap.size (fun _ => True) v0_ [] ∧ Below w.heap.size w w' := by
  have HR := Aside0.mk hr
  have HC := Aside0.mk hc
  have HE := Aside0.mk hec
  have HP := Aside0.mk hp
  clear hr hc hec hp
  have HB := Aside0.mk (Below.refl w.heap.size w)
  go_enter Try.func31, Try.ntmps31
  go_wp2_with (first
    | ((with_reducible refine gate_dst (N := 3) rfl ?_); refine box_event ?hg (N := 3) ?hd (cs := #[.slice A0 l.length c0]) (t := 26) ?hr ?_; (case hd => rfl); (case hg => rfl); (case hr => first | (go_simp; done) | (go_simp; rfl)); intro gbp hg wbp hbox hb; have m0_ := Aside0.mk (below_step HB.out hb); have m1_ := Aside0.mk (hbox); have m2_ := Aside0.mk ((by rw [hg]; exact HB.out.size : w.heap.size ≤ gbp)); (try clear HB); have HB := m0_; have BKp := m1_; have GEp := m2_; clear m0_ m1_ m2_; clear hb hbox hg)
    | ((with_reducible refine gate_dst (N := 4) rfl ?_); refine box_event ?hg (N := 4) ?hd (cs := #[.int .i64 a]) (t := 3) ?hr ?_; (case hd => rfl); (case hg => rfl); (case hr => first | (go_simp; done) | (go_simp; rfl)); intro gba hg wba hbox hb; have m0_ := Aside0.mk (blk_below (g := gbp) (o := .cells #[.slice A0 l.length c0] 26 (0, 0)) BKp.out hb); have m1_ := Aside0.mk (below_step HB.out hb); have m2_ := Aside0.mk (hbox); have m3_ := Aside0.mk ((by rw [hg]; exact HB.out.size : w.heap.size ≤ gba)); have m4_ := Aside0.mk ((by rw [hg]; exact Nat.ne_of_lt (blk_lt BKp.out) : gbp ≠ gba)); have m5_ := Aside0.mk ((by rw [hg]; exact Nat.ne_of_gt (blk_lt BKp.out) : gba ≠ gbp)); (try clear BKp); (try clear HB); have BKp := m0_; have HB := m1_; have BKa := m2_; have GEa := m3_; have NBp_a := m4_; have NBa_p := m5_; clear m0_ m1_ m2_ m3_ m4_ m5_; clear hb hbox hg)
    | ((with_reducible refine gate_dst (N := 5) rfl ?_); refine box_event ?hg (N := 5) ?hd (cs := #[.int .i64 b]) (t := 3) ?hr ?_; (case hd => rfl); (case hg => rfl); (case hr => first | (go_simp; done) | (go_simp; rfl)); intro gbb hg wbb hbox hb; have m0_ := Aside0.mk (blk_below (g := gbp) (o := .cells #[.slice A0 l.length c0] 26 (0, 0)) BKp.out hb); have m1_ := Aside0.mk (blk_below (g := gba) (o := .cells #[.int .i64 a] 3 (0, 0)) BKa.out hb); have m2_ := Aside0.mk (below_step HB.out hb); have m3_ := Aside0.mk (hbox); have m4_ := Aside0.mk ((by rw [hg]; exact HB.out.size : w.heap.size ≤ gbb)); have m5_ := Aside0.mk ((by rw [hg]; exact Nat.ne_of_lt (blk_lt BKp.out) : gbp ≠ gbb)); have m6_ := Aside0.mk ((by rw [hg]; exact Nat.ne_of_gt (blk_lt BKp.out) : gbb ≠ gbp)); have m7_ := Aside0.mk ((by rw [hg]; exact Nat.ne_of_lt (blk_lt BKa.out) : gba ≠ gbb)); have m8_ := Aside0.mk ((by rw [hg]; exact Nat.ne_of_gt (blk_lt BKa.out) : gbb ≠ gba)); (try clear BKp); (try clear BKa); (try clear HB); have BKp := m0_; have BKa := m1_; have HB := m2_; have BKb := m3_; have GEb := m4_; have NBp_b := m5_; have NBb_p := m6_; have NBa_b := m7_; have NBb_a := m8_; clear m0_ m1_ m2_ m3_ m4_ m5_ m6_ m7_ m8_; clear hb hbox hg)
    | ((with_reducible refine gate_dst (N := 6) rfl ?_); refine box_event ?hg (N := 6) ?hd (cs := #[.slice none 0 0]) (t := 26) ?hr ?_; (case hd => rfl); (case hg => rfl); (case hr => first | (go_simp; done) | (go_simp; rfl)); intro gbq hg wbq hbox hb; have m0_ := Aside0.mk (blk_below (g := gbp) (o := .cells #[.slice A0 l.length c0] 26 (0, 0)) BKp.out hb); have m1_ := Aside0.mk (blk_below (g := gba) (o := .cells #[.int .i64 a] 3 (0, 0)) BKa.out hb); have m2_ := Aside0.mk (blk_below (g := gbb) (o := .cells #[.int .i64 b] 3 (0, 0)) BKb.out hb); have m3_ := Aside0.mk (below_step HB.out hb); have m4_ := Aside0.mk (hbox); have m5_ := Aside0.mk ((by rw [hg]; exact HB.out.size : w.heap.size ≤ gbq)); have m6_ := Aside0.mk ((by rw [hg]; exact Nat.ne_of_lt (blk_lt BKp.out) : gbp ≠ gbq)); have m7_ := Aside0.mk ((by rw [hg]; exact Nat.ne_of_gt (blk_lt BKp.out) : gbq ≠ gbp)); have m8_ := Aside0.mk ((by rw [hg]; exact Nat.ne_of_lt (blk_lt BKa.out) : gba ≠ gbq)); have m9_ := Aside0.mk ((by rw [hg]; exact Nat.ne_of_gt (blk_lt BKa.out) : gbq ≠ gba)); have m10_ := Aside0.mk ((by rw [hg]; exact Nat.ne_of_lt (blk_lt BKb.out) : gbb ≠ gbq)); have m11_ := Aside0.mk ((by rw [hg]; exact Nat.ne_of_gt (blk_lt BKb.out) : gbq ≠ gbb)); (try clear BKp); (try clear BKa); (try clear BKb); (try clear HB); have BKp := m0_; have BKa := m1_; have BKb := m2_; have HB := m3_; have BKq := m4_; have GEq := m5_; have NBp_q := m6_; have NBq_p := m7_; have NBa_q := m8_; have NBq_a := m9_; have NBb_q := m10_; have NBq_b := m11_; clear m0_ m1_ m2_ m3_ m4_ m5_ m6_ m7_ m8_ m9_ m10_ m11_; clear hb hbox hg)
    | ((with_reducible refine gate_dst (N := 9) rfl ?_); refine box_event ?hg (N := 9) ?hd (cs := #[.int .i64 0]) (t := 3) ?hr ?_; (case hd => rfl); (case hg => rfl); (case hr => first | (go_simp; done) | (go_simp; rfl)); intro gbn hg wbn hbox hb; have m0_ := Aside0.mk (blk_below (g := gbp) (o := .cells #[.slice A0 l.length c0] 26 (0, 0)) BKp.out hb); have m1_ := Aside0.mk (blk_below (g := gba) (o := .cells #[.int .i64 a] 3 (0, 0)) BKa.out hb); have m2_ := Aside0.mk (blk_below (g := gbb) (o := .cells #[.int .i64 b] 3 (0, 0)) BKb.out hb); have m3_ := Aside0.mk (blk_below (g := gbq) (o := .cells #[.slice none 0 0] 26 (0, 0)) BKq.out hb); have m4_ := Aside0.mk (below_step HB.out hb); have m5_ := Aside0.mk (hbox); have m6_ := Aside0.mk ((by rw [hg]; exact HB.out.size : w.heap.size ≤ gbn)); have m7_ := Aside0.mk ((by rw [hg]; exact Nat.ne_of_lt (blk_lt BKp.out) : gbp ≠ gbn)); have m8_ := Aside0.mk ((by rw [hg]; exact Nat.ne_of_gt (blk_lt BKp.out) : gbn ≠ gbp)); have m9_ := Aside0.mk ((by rw [hg]; exact Nat.ne_of_lt (blk_lt BKa.out) : gba ≠ gbn)); have m10_ := Aside0.mk ((by rw [hg]; exact Nat.ne_of_gt (blk_lt BKa.out) : gbn ≠ gba)); have m11_ := Aside0.mk ((by rw [hg]; exact Nat.ne_of_lt (blk_lt BKb.out) : gbb ≠ gbn)); have m12_ := Aside0.mk ((by rw [hg]; exact Nat.ne_of_gt (blk_lt BKb.out) : gbn ≠ gbb)); have m13_ := Aside0.mk ((by rw [hg]; exact Nat.ne_of_lt (blk_lt BKq.out) : gbq ≠ gbn)); have m14_ := Aside0.mk ((by rw [hg]; exact Nat.ne_of_gt (blk_lt BKq.out) : gbn ≠ gbq)); (try clear BKp); (try clear BKa); (try clear BKb); (try clear BKq); (try clear HB); have BKp := m0_; have BKa := m1_; have BKb := m2_; have BKq := m3_; have HB := m4_; have BKn := m5_; have GEn := m6_; have NBp_n := m7_; have NBn_p := m8_; have NBa_n := m9_; have NBn_a := m10_; have NBb_n := m11_; have NBn_b := m12_; have NBq_n := m13_; have NBn_q := m14_; clear m0_ m1_ m2_ m3_ m4_ m5_ m6_ m7_ m8_ m9_ m10_ m11_ m12_ m13_ m14_; clear hb hbox hg; have hcz1_n_0 : World.cell? _ ⟨gbn, 0, none⟩ = some (.int .i64 0) := (blk_cell BKn.out 0).trans rfl; have hfz1_n := blk_frozen BKn.out 0)
    | ((with_reducible refine gate_store (t := 3) (p := 9) rfl ?_); refine store_event (t := 3) (p := 9) (v := ?vo_ws2) (w1 := (wbn.setCell ⟨gbn, 0, none⟩ (.int .i64 0))) ?hg ?ho ?hn ?hr ?_; (case ho => rfl); (case hg => rfl); (case hn => rfl); (case hr => first | (go_simp; done) | (go_simp; rfl)); intro ws2 hw; have m0_ := Aside0.mk ((show ws2.heap[gbp]? = some (.cells #[.slice A0 l.length c0] 26 (0, 0)) by rw [hw]; exact blk_far BKp.out (p := ⟨gbn, 0, none⟩) NBp_n.out _)); have m1_ := Aside0.mk ((show ws2.heap[gba]? = some (.cells #[.int .i64 a] 3 (0, 0)) by rw [hw]; exact blk_far BKa.out (p := ⟨gbn, 0, none⟩) NBa_n.out _)); have m2_ := Aside0.mk ((show ws2.heap[gbb]? = some (.cells #[.int .i64 b] 3 (0, 0)) by rw [hw]; exact blk_far BKb.out (p := ⟨gbn, 0, none⟩) NBb_n.out _)); have m3_ := Aside0.mk ((show ws2.heap[gbq]? = some (.cells #[.slice none 0 0] 26 (0, 0)) by rw [hw]; exact blk_far BKq.out (p := ⟨gbn, 0, none⟩) NBq_n.out _)); have m4_ := Aside0.mk ((show ws2.heap[gbn]? = some (.cells #[.int .i64 0] 3 (0, 0)) by rw [hw]; exact blk_put (cs := #[.int .i64 0]) BKn.out 0 _ rfl)); have m5_ := Aside0.mk ((show Below w.heap.size w ws2 by rw [hw]; exact below_set HB.out GEn.out)); clear hw; clear BKp; clear BKa; clear BKb; clear BKq; clear BKn; clear HB; have BKp := m0_; have BKa := m1_; have BKb := m2_; have BKq := m3_; have BKn := m4_; have HB := m5_; clear m0_ m1_ m2_ m3_ m4_ m5_; have hcz3_p_0 : World.cell? _ ⟨gbp, 0, none⟩ = some (.slice A0 l.length c0) := (blk_cell BKp.out 0).trans rfl; have hfz3_p := blk_frozen BKp.out 0; have hcz3_a_0 : World.cell? _ ⟨gba, 0, none⟩ = some (.int .i64 a) := (blk_cell BKa.out 0).trans rfl; have hfz3_a := blk_frozen BKa.out 0; have hcz3_b_0 : World.cell? _ ⟨gbb, 0, none⟩ = some (.int .i64 b) := (blk_cell BKb.out 0).trans rfl; have hfz3_b := blk_frozen BKb.out 0)
    | ((with_reducible refine gate_dst (N := 16) rfl ?_); refine Kd.R_lit (Kd.int .i64) _ 3 ?hg (N := 16) ?hd (xs := ([b] : List Int)) (inner := [.int .i64 b]) (ok := fun _ => True) (okp := fun _ => True) ?hr ?hp (fun _ hk => hk) trivial (Below.refl _ _) (Nat.le_refl _) (by simp) ?_; (case hd => rfl); (case hg => rfl); (case hr => first | (go_simp; done) | (go_simp; rfl)); (case hp => exact (Reps.one (show Kd.M (Kd.int .i64) _ _ _ b [.int .i64 b] from rfl) (Reps.none _ _))); intro vns wl4 ho_ hb hg_ hnew_; clear hg_ hnew_; have m0_ := Aside0.mk (blk_below (g := gbp) (o := .cells #[.slice A0 l.length c0] 26 (0, 0)) BKp.out hb); have m1_ := Aside0.mk (blk_below (g := gba) (o := .cells #[.int .i64 a] 3 (0, 0)) BKa.out hb); have m2_ := Aside0.mk (blk_below (g := gbb) (o := .cells #[.int .i64 b] 3 (0, 0)) BKb.out hb); have m3_ := Aside0.mk (blk_below (g := gbq) (o := .cells #[.slice none 0 0] 26 (0, 0)) BKq.out hb); have m4_ := Aside0.mk (blk_below (g := gbn) (o := .cells #[.int .i64 0] 3 (0, 0)) BKn.out hb); have m5_ := Aside0.mk (below_step HB.out hb); have m6_ := Aside0.mk (Kd.R_lower ho_ HB.out.size); (try clear BKp); (try clear BKa); (try clear BKb); (try clear BKq); (try clear BKn); (try clear HB); have BKp := m0_; have BKa := m1_; have BKb := m2_; have BKq := m3_; have BKn := m4_; have HB := m5_; have HOns := m6_; clear m0_ m1_ m2_ m3_ m4_ m5_ m6_; clear hb ho_; obtain ⟨Ans, cns, ens⟩ := Kd.R_slice HOns.out; subst ens)
    | (go_at_call 45; (refine (pool_with.bad 50 #[.pointer (some ⟨gba, 0, none⟩), .pointer (some ⟨gbb, 0, none⟩), .pointer (some ⟨gbn, 0, none⟩)] k A0 c0 l _ _ [b] _ ?s1 HC.out ?s2 ?s3 e1 HE.out HP.out).mono ?_); (case s1 => exact Kd.C_below HR.out HB.out); (case s2 => exact (Kd.R_reads' HOns.out).2.2); (case s3 => exact (Kd.R_reads' HOns.out).2.1); rintro e wr ⟨rfl, hb⟩; clear HOns; clear hcz3_p_0 hfz3_p hcz3_a_0 hfz3_a hcz3_b_0 hfz3_b; have m0_ := Aside0.mk (blk_below (g := gbp) (o := .cells #[.slice A0 l.length c0] 26 (0, 0)) BKp.out hb); have m1_ := Aside0.mk (blk_below (g := gba) (o := .cells #[.int .i64 a] 3 (0, 0)) BKa.out hb); have m2_ := Aside0.mk (blk_below (g := gbb) (o := .cells #[.int .i64 b] 3 (0, 0)) BKb.out hb); have m3_ := Aside0.mk (blk_below (g := gbq) (o := .cells #[.slice none 0 0] 26 (0, 0)) BKq.out hb); have m4_ := Aside0.mk (blk_below (g := gbn) (o := .cells #[.int .i64 0] 3 (0, 0)) BKn.out hb); have m5_ := Aside0.mk (below_step HB.out hb); (try clear BKp); (try clear BKa); (try clear BKb); (try clear BKq); (try clear BKn); (try clear HB); have BKp := m0_; have BKa := m1_; have BKb := m2_; have BKq := m3_; have BKn := m4_; have HB := m5_; clear m0_ m1_ m2_ m3_ m4_ m5_; clear hb; have HOv := Aside0.mk (Kd.R_nil (Kd.int .u32) 31 wr w.heap.size (fun _ => True)))
    | ((with_reducible refine gate_dst (N := 10) rfl ?_); refine box_event ?hg (N := 10) ?hd (cs := #[.slice none 0 0]) (t := 26) ?hr ?_; (case hd => rfl); (case hg => rfl); (case hr => first | (go_simp; done) | (go_simp; rfl)); intro gbt hg wbt hbox hb; have m0_ := Aside0.mk (blk_below (g := gbp) (o := .cells #[.slice A0 l.length c0] 26 (0, 0)) BKp.out hb); have m1_ := Aside0.mk (blk_below (g := gba) (o := .cells #[.int .i64 a] 3 (0, 0)) BKa.out hb); have m2_ := Aside0.mk (blk_below (g := gbb) (o := .cells #[.int .i64 b] 3 (0, 0)) BKb.out hb); have m3_ := Aside0.mk (blk_below (g := gbq) (o := .cells #[.slice none 0 0] 26 (0, 0)) BKq.out hb); have m4_ := Aside0.mk (blk_below (g := gbn) (o := .cells #[.int .i64 0] 3 (0, 0)) BKn.out hb); have m5_ := Aside0.mk (Kd.R_below HOv.out hb); have m6_ := Aside0.mk (below_step HB.out hb); have m7_ := Aside0.mk (hbox); have m8_ := Aside0.mk ((by rw [hg]; exact HB.out.size : w.heap.size ≤ gbt)); have m9_ := Aside0.mk ((by rw [hg]; exact Nat.ne_of_lt (blk_lt BKp.out) : gbp ≠ gbt)); have m10_ := Aside0.mk ((by rw [hg]; exact Nat.ne_of_gt (blk_lt BKp.out) : gbt ≠ gbp)); have m11_ := Aside0.mk ((by rw [hg]; exact Nat.ne_of_lt (blk_lt BKa.out) : gba ≠ gbt)); have m12_ := Aside0.mk ((by rw [hg]; exact Nat.ne_of_gt (blk_lt BKa.out) : gbt ≠ gba)); have m13_ := Aside0.mk ((by rw [hg]; exact Nat.ne_of_lt (blk_lt BKb.out) : gbb ≠ gbt)); have m14_ := Aside0.mk ((by rw [hg]; exact Nat.ne_of_gt (blk_lt BKb.out) : gbt ≠ gbb)); have m15_ := Aside0.mk ((by rw [hg]; exact Nat.ne_of_lt (blk_lt BKq.out) : gbq ≠ gbt)); have m16_ := Aside0.mk ((by rw [hg]; exact Nat.ne_of_gt (blk_lt BKq.out) : gbt ≠ gbq)); have m17_ := Aside0.mk ((by rw [hg]; exact Nat.ne_of_lt (blk_lt BKn.out) : gbn ≠ gbt)); have m18_ := Aside0.mk ((by rw [hg]; exact Nat.ne_of_gt (blk_lt BKn.out) : gbt ≠ gbn)); (try clear BKp); (try clear BKa); (try clear BKb); (try clear BKq); (try clear BKn); (try clear HOv); (try clear HB); have BKp := m0_; have BKa := m1_; have BKb := m2_; have BKq := m3_; have BKn := m4_; have HOv := m5_; have HB := m6_; have BKt := m7_; have GEt := m8_; have NBp_t := m9_; have NBt_p := m10_; have NBa_t := m11_; have NBt_a := m12_; have NBb_t := m13_; have NBt_b := m14_; have NBq_t := m15_; have NBt_q := m16_; have NBn_t := m17_; have NBt_n := m18_; clear m0_ m1_ m2_ m3_ m4_ m5_ m6_ m7_ m8_ m9_ m10_ m11_ m12_ m13_ m14_ m15_ m16_ m17_ m18_; clear hb hbox hg; have hcz5_t_0 : World.cell? _ ⟨gbt, 0, none⟩ = some (.slice none 0 0) := (blk_cell BKt.out 0).trans rfl; have hfz5_t := blk_frozen BKt.out 0)
    | ((with_reducible refine gate_store (t := 26) (p := 10) rfl ?_); refine store_event (t := 26) (p := 10) (v := ?vo_ws6) (w1 := (wbt.setCell ⟨gbt, 0, none⟩ (.slice none 0 0))) ?hg ?ho ?hn ?hr ?_; (case ho => rfl); (case hg => rfl); (case hn => rfl); (case hr => first | (go_simp; done) | (go_simp; rfl)); intro ws6 hw; have m0_ := Aside0.mk ((show ws6.heap[gbp]? = some (.cells #[.slice A0 l.length c0] 26 (0, 0)) by rw [hw]; exact blk_far BKp.out (p := ⟨gbt, 0, none⟩) NBp_t.out _)); have m1_ := Aside0.mk ((show ws6.heap[gba]? = some (.cells #[.int .i64 a] 3 (0, 0)) by rw [hw]; exact blk_far BKa.out (p := ⟨gbt, 0, none⟩) NBa_t.out _)); have m2_ := Aside0.mk ((show ws6.heap[gbb]? = some (.cells #[.int .i64 b] 3 (0, 0)) by rw [hw]; exact blk_far BKb.out (p := ⟨gbt, 0, none⟩) NBb_t.out _)); have m3_ := Aside0.mk ((show ws6.heap[gbq]? = some (.cells #[.slice none 0 0] 26 (0, 0)) by rw [hw]; exact blk_far BKq.out (p := ⟨gbt, 0, none⟩) NBq_t.out _)); have m4_ := Aside0.mk ((show ws6.heap[gbn]? = some (.cells #[.int .i64 0] 3 (0, 0)) by rw [hw]; exact blk_far BKn.out (p := ⟨gbt, 0, none⟩) NBn_t.out _)); have m5_ := Aside0.mk ((show ws6.heap[gbt]? = some (.cells #[.slice none 0 0] 26 (0, 0)) by rw [hw]; exact blk_put (cs := #[.slice none 0 0]) BKt.out 0 _ rfl)); have m6_ := Aside0.mk ((show Kd.R (Kd.int .u32) 31 ws6 w.heap.size (fun _ => True) (.slice none 0 0) [] by rw [hw]; exact Kd.R_set HOv.out BKt.out (by decide) 0 _)); have m7_ := Aside0.mk ((show Below w.heap.size w ws6 by rw [hw]; exact below_set HB.out GEt.out)); clear hw; clear BKp; clear BKa; clear BKb; clear BKq; clear BKn; clear BKt; clear HOv; clear HB; have BKp := m0_; have BKa := m1_; have BKb := m2_; have BKq := m3_; have BKn := m4_; have BKt := m5_; have HOv := m6_; have HB := m7_; clear m0_ m1_ m2_ m3_ m4_ m5_ m6_ m7_; have hcz7_t_0 : World.cell? _ ⟨gbt, 0, none⟩ = some (.slice none 0 0) := (blk_cell BKt.out 0).trans rfl; have hfz7_t := blk_frozen BKt.out 0; have hcz7_n_0 : World.cell? _ ⟨gbn, 0, none⟩ = some (.int .i64 0) := (blk_cell BKn.out 0).trans rfl; have hfz7_n := blk_frozen BKn.out 0; have hcz7_q_0 : World.cell? _ ⟨gbq, 0, none⟩ = some (.slice none 0 0) := (blk_cell BKq.out 0).trans rfl; have hfz7_q := blk_frozen BKq.out 0; have hne1_ := NBt_q.out; have hne2_ := NBq_t.out; have hne3_ := NBn_q.out; have hne4_ := NBq_n.out))
  go_region
  go_wp2
  refine bodyPost_ret (results_ctt rfl _ _ gbq 26 #[.slice none 0 0] (0, 0) _ rfl (blk_put (cs := #[.slice none 0 0]) (blk_drew BKq.out) 0 _ rfl) Try.underlying26 rfl (by kernel_rfl)) rfl ?_
  exact ⟨_, rfl, Kd.R_set (Kd.R_drew HOv.out) (blk_drew BKq.out) (by decide) 0 _, (HB.out.drew).setCell GEq.out _⟩
set_option maxHeartbeats 4000000 in
theorem pool_Move.lacks (k : Nat) (A0 : Option Addr) (c0 : Nat) (l : List Int) (a b : Int) (w : World) (hr : Kd.C (Kd.int .u32) w A0 l.length l) (hc : l.length ≤ c0) (hec : pool_Check.f k l = some 0) (hp : pool_pool.f l [b] = some false) :
    Calls Try.prog 31 #[.agg #[.slice A0 l.length c0], .int .i64 a, .int .i64 b] w fun e w' => ∃ v0_ : Value, e = .returned (.tuple #[.agg #[v0_], .int .i64 0, .int .i64 4]) ∧ Kd.R (Kd.int .u32) 31 w' w.heap.size (fun _ => True) v0_ [] ∧ Below w.heap.size w w' := by
  have HR := Aside0.mk hr
  have HC := Aside0.mk hc
  have HE := Aside0.mk hec
  have HP := Aside0.mk hp
  clear hr hc hec hp
  have HB := Aside0.mk (Below.refl w.heap.size w)
  go_enter Try.func31, Try.ntmps31
  go_wp2_with (first
    | ((with_reducible refine gate_dst (N := 3) rfl ?_); refine box_event ?hg (N := 3) ?hd (cs := #[.slice A0 l.length c0]) (t := 26) ?hr ?_; (case hd => rfl); (case hg => rfl); (case hr => first | (go_simp; done) | (go_simp; rfl)); intro gbp hg wbp hbox hb; have m0_ := Aside0.mk (below_step HB.out hb); have m1_ := Aside0.mk (hbox); have m2_ := Aside0.mk ((by rw [hg]; exact HB.out.size : w.heap.size ≤ gbp)); (try clear HB); have HB := m0_; have BKp := m1_; have GEp := m2_; clear m0_ m1_ m2_; clear hb hbox hg)
    | ((with_reducible refine gate_dst (N := 4) rfl ?_); refine box_event ?hg (N := 4) ?hd (cs := #[.int .i64 a]) (t := 3) ?hr ?_; (case hd => rfl); (case hg => rfl); (case hr => first | (go_simp; done) | (go_simp; rfl)); intro gba hg wba hbox hb; have m0_ := Aside0.mk (blk_below (g := gbp) (o := .cells #[.slice A0 l.length c0] 26 (0, 0)) BKp.out hb); have m1_ := Aside0.mk (below_step HB.out hb); have m2_ := Aside0.mk (hbox); have m3_ := Aside0.mk ((by rw [hg]; exact HB.out.size : w.heap.size ≤ gba)); have m4_ := Aside0.mk ((by rw [hg]; exact Nat.ne_of_lt (blk_lt BKp.out) : gbp ≠ gba)); have m5_ := Aside0.mk ((by rw [hg]; exact Nat.ne_of_gt (blk_lt BKp.out) : gba ≠ gbp)); (try clear BKp); (try clear HB); have BKp := m0_; have HB := m1_; have BKa := m2_; have GEa := m3_; have NBp_a := m4_; have NBa_p := m5_; clear m0_ m1_ m2_ m3_ m4_ m5_; clear hb hbox hg)
    | ((with_reducible refine gate_dst (N := 5) rfl ?_); refine box_event ?hg (N := 5) ?hd (cs := #[.int .i64 b]) (t := 3) ?hr ?_; (case hd => rfl); (case hg => rfl); (case hr => first | (go_simp; done) | (go_simp; rfl)); intro gbb hg wbb hbox hb; have m0_ := Aside0.mk (blk_below (g := gbp) (o := .cells #[.slice A0 l.length c0] 26 (0, 0)) BKp.out hb); have m1_ := Aside0.mk (blk_below (g := gba) (o := .cells #[.int .i64 a] 3 (0, 0)) BKa.out hb); have m2_ := Aside0.mk (below_step HB.out hb); have m3_ := Aside0.mk (hbox); have m4_ := Aside0.mk ((by rw [hg]; exact HB.out.size : w.heap.size ≤ gbb)); have m5_ := Aside0.mk ((by rw [hg]; exact Nat.ne_of_lt (blk_lt BKp.out) : gbp ≠ gbb)); have m6_ := Aside0.mk ((by rw [hg]; exact Nat.ne_of_gt (blk_lt BKp.out) : gbb ≠ gbp)); have m7_ := Aside0.mk ((by rw [hg]; exact Nat.ne_of_lt (blk_lt BKa.out) : gba ≠ gbb)); have m8_ := Aside0.mk ((by rw [hg]; exact Nat.ne_of_gt (blk_lt BKa.out) : gbb ≠ gba)); (try clear BKp); (try clear BKa); (try clear HB); have BKp := m0_; have BKa := m1_; have HB := m2_; have BKb := m3_; have GEb := m4_; have NBp_b := m5_; have NBb_p := m6_; have NBa_b := m7_; have NBb_a := m8_; clear m0_ m1_ m2_ m3_ m4_ m5_ m6_ m7_ m8_; clear hb hbox hg)
    | ((with_reducible refine gate_dst (N := 6) rfl ?_); refine box_event ?hg (N := 6) ?hd (cs := #[.slice none 0 0]) (t := 26) ?hr ?_; (case hd => rfl); (case hg => rfl); (case hr => first | (go_simp; done) | (go_simp; rfl)); intro gbq hg wbq hbox hb; have m0_ := Aside0.mk (blk_below (g := gbp) (o := .cells #[.slice A0 l.length c0] 26 (0, 0)) BKp.out hb); have m1_ := Aside0.mk (blk_below (g := gba) (o := .cells #[.int .i64 a] 3 (0, 0)) BKa.out hb); have m2_ := Aside0.mk (blk_below (g := gbb) (o := .cells #[.int .i64 b] 3 (0, 0)) BKb.out hb); have m3_ := Aside0.mk (below_step HB.out hb); have m4_ := Aside0.mk (hbox); have m5_ := Aside0.mk ((by rw [hg]; exact HB.out.size : w.heap.size ≤ gbq)); have m6_ := Aside0.mk ((by rw [hg]; exact Nat.ne_of_lt (blk_lt BKp.out) : gbp ≠ gbq)); have m7_ := Aside0.mk ((by rw [hg]; exact Nat.ne_of_gt (blk_lt BKp.out) : gbq ≠ gbp)); have m8_ := Aside0.mk ((by rw [hg]; exact Nat.ne_of_lt (blk_lt BKa.out) : gba ≠ gbq)); have m9_ := Aside0.mk ((by rw [hg]; exact Nat.ne_of_gt (blk_lt BKa.out) : gbq ≠ gba)); have m10_ := Aside0.mk ((by rw [hg]; exact Nat.ne_of_lt (blk_lt BKb.out) : gbb ≠ gbq)); have m11_ := Aside0.mk ((by rw [hg]; exact Nat.ne_of_gt (blk_lt BKb.out) : gbq ≠ gbb)); (try clear BKp); (try clear BKa); (try clear BKb); (try clear HB); have BKp := m0_; have BKa := m1_; have BKb := m2_; have HB := m3_; have BKq := m4_; have GEq := m5_; have NBp_q := m6_; have NBq_p := m7_; have NBa_q := m8_; have NBq_a := m9_; have NBb_q := m10_; have NBq_b := m11_; clear m0_ m1_ m2_ m3_ m4_ m5_ m6_ m7_ m8_ m9_ m10_ m11_; clear hb hbox hg)
    | ((with_reducible refine gate_dst (N := 9) rfl ?_); refine box_event ?hg (N := 9) ?hd (cs := #[.int .i64 0]) (t := 3) ?hr ?_; (case hd => rfl); (case hg => rfl); (case hr => first | (go_simp; done) | (go_simp; rfl)); intro gbn hg wbn hbox hb; have m0_ := Aside0.mk (blk_below (g := gbp) (o := .cells #[.slice A0 l.length c0] 26 (0, 0)) BKp.out hb); have m1_ := Aside0.mk (blk_below (g := gba) (o := .cells #[.int .i64 a] 3 (0, 0)) BKa.out hb); have m2_ := Aside0.mk (blk_below (g := gbb) (o := .cells #[.int .i64 b] 3 (0, 0)) BKb.out hb); have m3_ := Aside0.mk (blk_below (g := gbq) (o := .cells #[.slice none 0 0] 26 (0, 0)) BKq.out hb); have m4_ := Aside0.mk (below_step HB.out hb); have m5_ := Aside0.mk (hbox); have m6_ := Aside0.mk ((by rw [hg]; exact HB.out.size : w.heap.size ≤ gbn)); have m7_ := Aside0.mk ((by rw [hg]; exact Nat.ne_of_lt (blk_lt BKp.out) : gbp ≠ gbn)); have m8_ := Aside0.mk ((by rw [hg]; exact Nat.ne_of_gt (blk_lt BKp.out) : gbn ≠ gbp)); have m9_ := Aside0.mk ((by rw [hg]; exact Nat.ne_of_lt (blk_lt BKa.out) : gba ≠ gbn)); have m10_ := Aside0.mk ((by rw [hg]; exact Nat.ne_of_gt (blk_lt BKa.out) : gbn ≠ gba)); have m11_ := Aside0.mk ((by rw [hg]; exact Nat.ne_of_lt (blk_lt BKb.out) : gbb ≠ gbn)); have m12_ := Aside0.mk ((by rw [hg]; exact Nat.ne_of_gt (blk_lt BKb.out) : gbn ≠ gbb)); have m13_ := Aside0.mk ((by rw [hg]; exact Nat.ne_of_lt (blk_lt BKq.out) : gbq ≠ gbn)); have m14_ := Aside0.mk ((by rw [hg]; exact Nat.ne_of_gt (blk_lt BKq.out) : gbn ≠ gbq)); (try clear BKp); (try clear BKa); (try clear BKb); (try clear BKq); (try clear HB); have BKp := m0_; have BKa := m1_; have BKb := m2_; have BKq := m3_; have HB := m4_; have BKn := m5_; have GEn := m6_; have NBp_n := m7_; have NBn_p := m8_; have NBa_n := m9_; have NBn_a := m10_; have NBb_n := m11_; have NBn_b := m12_; have NBq_n := m13_; have NBn_q := m14_; clear m0_ m1_ m2_ m3_ m4_ m5_ m6_ m7_ m8_ m9_ m10_ m11_ m12_ m13_ m14_; clear hb hbox hg; have hcz1_n_0 : World.cell? _ ⟨gbn, 0, none⟩ = some (.int .i64 0) := (blk_cell BKn.out 0).trans rfl; have hfz1_n := blk_frozen BKn.out 0)
    | ((with_reducible refine gate_store (t := 3) (p := 9) rfl ?_); refine store_event (t := 3) (p := 9) (v := ?vo_ws2) (w1 := (wbn.setCell ⟨gbn, 0, none⟩ (.int .i64 0))) ?hg ?ho ?hn ?hr ?_; (case ho => rfl); (case hg => rfl); (case hn => rfl); (case hr => first | (go_simp; done) | (go_simp; rfl)); intro ws2 hw; have m0_ := Aside0.mk ((show ws2.heap[gbp]? = some (.cells #[.slice A0 l.length c0] 26 (0, 0)) by rw [hw]; exact blk_far BKp.out (p := ⟨gbn, 0, none⟩) NBp_n.out _)); have m1_ := Aside0.mk ((show ws2.heap[gba]? = some (.cells #[.int .i64 a] 3 (0, 0)) by rw [hw]; exact blk_far BKa.out (p := ⟨gbn, 0, none⟩) NBa_n.out _)); have m2_ := Aside0.mk ((show ws2.heap[gbb]? = some (.cells #[.int .i64 b] 3 (0, 0)) by rw [hw]; exact blk_far BKb.out (p := ⟨gbn, 0, none⟩) NBb_n.out _)); have m3_ := Aside0.mk ((show ws2.heap[gbq]? = some (.cells #[.slice none 0 0] 26 (0, 0)) by rw [hw]; exact blk_far BKq.out (p := ⟨gbn, 0, none⟩) NBq_n.out _)); have m4_ := Aside0.mk ((show ws2.heap[gbn]? = some (.cells #[.int .i64 0] 3 (0, 0)) by rw [hw]; exact blk_put (cs := #[.int .i64 0]) BKn.out 0 _ rfl)); have m5_ := Aside0.mk ((show Below w.heap.size w ws2 by rw [hw]; exact below_set HB.out GEn.out)); clear hw; clear BKp; clear BKa; clear BKb; clear BKq; clear BKn; clear HB; have BKp := m0_; have BKa := m1_; have BKb := m2_; have BKq := m3_; have BKn := m4_; have HB := m5_; clear m0_ m1_ m2_ m3_ m4_ m5_; have hcz3_p_0 : World.cell? _ ⟨gbp, 0, none⟩ = some (.slice A0 l.length c0) := (blk_cell BKp.out 0).trans rfl; have hfz3_p := blk_frozen BKp.out 0; have hcz3_a_0 : World.cell? _ ⟨gba, 0, none⟩ = some (.int .i64 a) := (blk_cell BKa.out 0).trans rfl; have hfz3_a := blk_frozen BKa.out 0; have hcz3_b_0 : World.cell? _ ⟨gbb, 0, none⟩ = some (.int .i64 b) := (blk_cell BKb.out 0).trans rfl; have hfz3_b := blk_frozen BKb.out 0)
    | ((with_reducible refine gate_dst (N := 16) rfl ?_); refine Kd.R_lit (Kd.int .i64) _ 3 ?hg (N := 16) ?hd (xs := ([b] : List Int)) (inner := [.int .i64 b]) (ok := fun _ => True) (okp := fun _ => True) ?hr ?hp (fun _ hk => hk) trivial (Below.refl _ _) (Nat.le_refl _) (by simp) ?_; (case hd => rfl); (case hg => rfl); (case hr => first | (go_simp; done) | (go_simp; rfl)); (case hp => exact (Reps.one (show Kd.M (Kd.int .i64) _ _ _ b [.int .i64 b] from rfl) (Reps.none _ _))); intro vns wl4 ho_ hb hg_ hnew_; clear hg_ hnew_; have m0_ := Aside0.mk (blk_below (g := gbp) (o := .cells #[.slice A0 l.length c0] 26 (0, 0)) BKp.out hb); have m1_ := Aside0.mk (blk_below (g := gba) (o := .cells #[.int .i64 a] 3 (0, 0)) BKa.out hb); have m2_ := Aside0.mk (blk_below (g := gbb) (o := .cells #[.int .i64 b] 3 (0, 0)) BKb.out hb); have m3_ := Aside0.mk (blk_below (g := gbq) (o := .cells #[.slice none 0 0] 26 (0, 0)) BKq.out hb); have m4_ := Aside0.mk (blk_below (g := gbn) (o := .cells #[.int .i64 0] 3 (0, 0)) BKn.out hb); have m5_ := Aside0.mk (below_step HB.out hb); have m6_ := Aside0.mk (Kd.R_lower ho_ HB.out.size); (try clear BKp); (try clear BKa); (try clear BKb); (try clear BKq); (try clear BKn); (try clear HB); have BKp := m0_; have BKa := m1_; have BKb := m2_; have BKq := m3_; have BKn := m4_; have HB := m5_; have HOns := m6_; clear m0_ m1_ m2_ m3_ m4_ m5_ m6_; clear hb ho_; obtain ⟨Ans, cns, ens⟩ := Kd.R_slice HOns.out; subst ens)
    | (go_at_call 45; (refine (pool_with.lacks 50 #[.pointer (some ⟨gba, 0, none⟩), .pointer (some ⟨gbb, 0, none⟩), .pointer (some ⟨gbn, 0, none⟩)] k A0 c0 l _ _ [b] _ ?s1 HC.out ?s2 ?s3 HE.out HP.out).mono ?_); (case s1 => exact Kd.C_below HR.out HB.out); (case s2 => exact (Kd.R_reads' HOns.out).2.2); (case s3 => exact (Kd.R_reads' HOns.out).2.1); rintro e wr ⟨rfl, hb⟩; clear HOns; clear hcz3_p_0 hfz3_p hcz3_a_0 hfz3_a hcz3_b_0 hfz3_b; have m0_ := Aside0.mk (blk_below (g := gbp) (o := .cells #[.slice A0 l.length c0] 26 (0, 0)) BKp.out hb); have m1_ := Aside0.mk (blk_below (g := gba) (o := .cells #[.int .i64 a] 3 (0, 0)) BKa.out hb); have m2_ := Aside0.mk (blk_below (g := gbb) (o := .cells #[.int .i64 b] 3 (0, 0)) BKb.out hb); have m3_ := Aside0.mk (blk_below (g := gbq) (o := .cells #[.slice none 0 0] 26 (0, 0)) BKq.out hb); have m4_ := Aside0.mk (blk_below (g := gbn) (o := .cells #[.int .i64 0] 3 (0, 0)) BKn.out hb); have m5_ := Aside0.mk (below_step HB.out hb); (try clear BKp); (try clear BKa); (try clear BKb); (try clear BKq); (try clear BKn); (try clear HB); have BKp := m0_; have BKa := m1_; have BKb := m2_; have BKq := m3_; have BKn := m4_; have HB := m5_; clear m0_ m1_ m2_ m3_ m4_ m5_; clear hb; have HOv := Aside0.mk (Kd.R_nil (Kd.int .u32) 31 wr w.heap.size (fun _ => True)))
    | ((with_reducible refine gate_dst (N := 10) rfl ?_); refine box_event ?hg (N := 10) ?hd (cs := #[.slice none 0 0]) (t := 26) ?hr ?_; (case hd => rfl); (case hg => rfl); (case hr => first | (go_simp; done) | (go_simp; rfl)); intro gbt hg wbt hbox hb; have m0_ := Aside0.mk (blk_below (g := gbp) (o := .cells #[.slice A0 l.length c0] 26 (0, 0)) BKp.out hb); have m1_ := Aside0.mk (blk_below (g := gba) (o := .cells #[.int .i64 a] 3 (0, 0)) BKa.out hb); have m2_ := Aside0.mk (blk_below (g := gbb) (o := .cells #[.int .i64 b] 3 (0, 0)) BKb.out hb); have m3_ := Aside0.mk (blk_below (g := gbq) (o := .cells #[.slice none 0 0] 26 (0, 0)) BKq.out hb); have m4_ := Aside0.mk (blk_below (g := gbn) (o := .cells #[.int .i64 0] 3 (0, 0)) BKn.out hb); have m5_ := Aside0.mk (Kd.R_below HOv.out hb); have m6_ := Aside0.mk (below_step HB.out hb); have m7_ := Aside0.mk (hbox); have m8_ := Aside0.mk ((by rw [hg]; exact HB.out.size : w.heap.size ≤ gbt)); have m9_ := Aside0.mk ((by rw [hg]; exact Nat.ne_of_lt (blk_lt BKp.out) : gbp ≠ gbt)); have m10_ := Aside0.mk ((by rw [hg]; exact Nat.ne_of_gt (blk_lt BKp.out) : gbt ≠ gbp)); have m11_ := Aside0.mk ((by rw [hg]; exact Nat.ne_of_lt (blk_lt BKa.out) : gba ≠ gbt)); have m12_ := Aside0.mk ((by rw [hg]; exact Nat.ne_of_gt (blk_lt BKa.out) : gbt ≠ gba)); have m13_ := Aside0.mk ((by rw [hg]; exact Nat.ne_of_lt (blk_lt BKb.out) : gbb ≠ gbt)); have m14_ := Aside0.mk ((by rw [hg]; exact Nat.ne_of_gt (blk_lt BKb.out) : gbt ≠ gbb)); have m15_ := Aside0.mk ((by rw [hg]; exact Nat.ne_of_lt (blk_lt BKq.out) : gbq ≠ gbt)); have m16_ := Aside0.mk ((by rw [hg]; exact Nat.ne_of_gt (blk_lt BKq.out) : gbt ≠ gbq)); have m17_ := Aside0.mk ((by rw [hg]; exact Nat.ne_of_lt (blk_lt BKn.out) : gbn ≠ gbt)); have m18_ := Aside0.mk ((by rw [hg]; exact Nat.ne_of_gt (blk_lt BKn.out) : gbt ≠ gbn)); (try clear BKp); (try clear BKa); (try clear BKb); (try clear BKq); (try clear BKn); (try clear HOv); (try clear HB); have BKp := m0_; have BKa := m1_; have BKb := m2_; have BKq := m3_; have BKn := m4_; have HOv := m5_; have HB := m6_; have BKt := m7_; have GEt := m8_; have NBp_t := m9_; have NBt_p := m10_; have NBa_t := m11_; have NBt_a := m12_; have NBb_t := m13_; have NBt_b := m14_; have NBq_t := m15_; have NBt_q := m16_; have NBn_t := m17_; have NBt_n := m18_; clear m0_ m1_ m2_ m3_ m4_ m5_ m6_ m7_ m8_ m9_ m10_ m11_ m12_ m13_ m14_ m15_ m16_ m17_ m18_; clear hb hbox hg; have hcz5_t_0 : World.cell? _ ⟨gbt, 0, none⟩ = some (.slice none 0 0) := (blk_cell BKt.out 0).trans rfl; have hfz5_t := blk_frozen BKt.out 0)
    | ((with_reducible refine gate_store (t := 26) (p := 10) rfl ?_); refine store_event (t := 26) (p := 10) (v := ?vo_ws6) (w1 := (wbt.setCell ⟨gbt, 0, none⟩ (.slice none 0 0))) ?hg ?ho ?hn ?hr ?_; (case ho => rfl); (case hg => rfl); (case hn => rfl); (case hr => first | (go_simp; done) | (go_simp; rfl)); intro ws6 hw; have m0_ := Aside0.mk ((show ws6.heap[gbp]? = some (.cells #[.slice A0 l.length c0] 26 (0, 0)) by rw [hw]; exact blk_far BKp.out (p := ⟨gbt, 0, none⟩) NBp_t.out _)); have m1_ := Aside0.mk ((show ws6.heap[gba]? = some (.cells #[.int .i64 a] 3 (0, 0)) by rw [hw]; exact blk_far BKa.out (p := ⟨gbt, 0, none⟩) NBa_t.out _)); have m2_ := Aside0.mk ((show ws6.heap[gbb]? = some (.cells #[.int .i64 b] 3 (0, 0)) by rw [hw]; exact blk_far BKb.out (p := ⟨gbt, 0, none⟩) NBb_t.out _)); have m3_ := Aside0.mk ((show ws6.heap[gbq]? = some (.cells #[.slice none 0 0] 26 (0, 0)) by rw [hw]; exact blk_far BKq.out (p := ⟨gbt, 0, none⟩) NBq_t.out _)); have m4_ := Aside0.mk ((show ws6.heap[gbn]? = some (.cells #[.int .i64 0] 3 (0, 0)) by rw [hw]; exact blk_far BKn.out (p := ⟨gbt, 0, none⟩) NBn_t.out _)); have m5_ := Aside0.mk ((show ws6.heap[gbt]? = some (.cells #[.slice none 0 0] 26 (0, 0)) by rw [hw]; exact blk_put (cs := #[.slice none 0 0]) BKt.out 0 _ rfl)); have m6_ := Aside0.mk ((show Kd.R (Kd.int .u32) 31 ws6 w.heap.size (fun _ => True) (.slice none 0 0) [] by rw [hw]; exact Kd.R_set HOv.out BKt.out (by decide) 0 _)); have m7_ := Aside0.mk ((show Below w.heap.size w ws6 by rw [hw]; exact below_set HB.out GEt.out)); clear hw; clear BKp; clear BKa; clear BKb; clear BKq; clear BKn; clear BKt; clear HOv; clear HB; have BKp := m0_; have BKa := m1_; have BKb := m2_; have BKq := m3_; have BKn := m4_; have BKt := m5_; have HOv := m6_; have HB := m7_; clear m0_ m1_ m2_ m3_ m4_ m5_ m6_ m7_; have hcz7_t_0 : World.cell? _ ⟨gbt, 0, none⟩ = some (.slice none 0 0) := (blk_cell BKt.out 0).trans rfl; have hfz7_t := blk_frozen BKt.out 0; have hcz7_n_0 : World.cell? _ ⟨gbn, 0, none⟩ = some (.int .i64 0) := (blk_cell BKn.out 0).trans rfl; have hfz7_n := blk_frozen BKn.out 0; have hcz7_q_0 : World.cell? _ ⟨gbq, 0, none⟩ = some (.slice none 0 0) := (blk_cell BKq.out 0).trans rfl; have hfz7_q := blk_frozen BKq.out 0; have hne1_ := NBt_q.out; have hne2_ := NBq_t.out; have hne3_ := NBn_q.out; have hne4_ := NBq_n.out))
  go_region
  go_wp2
  refine bodyPost_ret (results_ctt rfl _ _ gbq 26 #[.slice none 0 0] (0, 0) _ rfl (blk_put (cs := #[.slice none 0 0]) (blk_drew BKq.out) 0 _ rfl) Try.underlying26 rfl (by kernel_rfl)) rfl ?_
  exact ⟨_, rfl, Kd.R_set (Kd.R_drew HOv.out) (blk_drew BKq.out) (by decide) 0 _, (HB.out.drew).setCell GEq.out _⟩
def pool_Move.f (k : Nat) (l0_0 : List Int) (a1 : Int) (a2 : Int) : Option (List Int × Int × Int) :=
  if l0_0.length < 35184372088832 then (pool_Check.f k l0_0).bind fun e => if e ≠ 0 then some ([], 0, e) else (pool_pool.f l0_0 [a2]).bind fun ok => if ok = false then some ([], 0, 4) else (moveDo k l0_0 a1 a2).bind fun x => some (if x.1 = 0 then x.2.1 else [], x.2.2, x.1) else none
theorem pool_Move.mono : ∀ a0 a1 a2 k, LeO (pool_Move.f k a0 a1 a2) (pool_Move.f (k + 1) a0 a1 a2) := by
  intro a0 a1 a2 k
  unfold pool_Move.f
  split
  · refine LeO.bind (pool_Check.mono a0 k) (fun e => ?_)
    refine LeO.ite (LeO.refl _) (LeO.bind (LeO.refl _) (fun ok => LeO.ite (LeO.refl _) (LeO.bind ?_ (fun _ => LeO.refl _))))
    unfold moveDo
    exact LeO.bind (pool_Of.mono a0 a1 k) (fun _ => LeO.refl _)
  · exact LeO.refl _
theorem pool_Move.calls (k : Nat) (A0_0 : Option Addr) (c0_0 : Nat) (l0_0 : List Int) (a1 : Int) (a2 : Int) (r1 : List Int) (r2 : Int) (r3 : Int) (w : World) (hr0_0 : Kd.C (Kd.int .u32) w A0_0 l0_0.length l0_0) (hc0_0 : l0_0.length ≤ c0_0) (h : pool_Move.f k l0_0 a1 a2 = some (r1, r2, r3)) :
    Calls Try.prog 31 #[.agg #[.slice A0_0 l0_0.length c0_0], .int .i64 a1, .int .i64 a2] w fun e w' => ∃ v0_ : Value, e = .returned (.tuple #[.agg #[v0_], .int .i64 r2, .int .i64 r3]) ∧ Kd.R (Kd.int .u32) 31 w' w.heap.size (fun _ => True) v0_ r1 ∧ Below w.heap.size w w' := by
  unfold pool_Move.f at h
  split at h
  case isFalse => cases h
  case isTrue hl =>
  obtain ⟨e, he, h⟩ := Option.bind_eq_some_iff.mp h
  by_cases e0 : e = 0
  case neg =>
    rw [if_pos e0] at h
    injection h with h; injection h with h1 h; injection h with h2 h3
    subst h1 h2 h3
    exact pool_Move.bad k A0_0 c0_0 l0_0 a1 a2 w hr0_0 hc0_0 e he e0
  subst e0
  rw [if_neg (by simp)] at h
  obtain ⟨ok, hok, h⟩ := Option.bind_eq_some_iff.mp h
  cases ok
  · rw [if_pos rfl] at h
    injection h with h; injection h with h1 h; injection h with h2 h3
    subst h1 h2 h3
    exact pool_Move.lacks k A0_0 c0_0 l0_0 a1 a2 w hr0_0 hc0_0 he hok
  rw [if_neg (by simp)] at h
  obtain ⟨⟨err, l', n⟩, hx, h⟩ := Option.bind_eq_some_iff.mp h
  injection h with h; injection h with h1 h; injection h with h2 h3
  subst h2 h3
  obtain ⟨h0, h1'⟩ := pool_pool.one hok
  obtain ⟨ad, rfl, _⟩ := Kd.at_int hr0_0 a2 h0 h1'
  exact pool_Move.does k ad c0_0 l0_0 a1 a2 err n l' w hr0_0 hc0_0 hl he hok h0 h1' hx r1 h1.symm

end Go.Proofs.Ytkhbffjfclepfaa.Q
