/- Part 5 of 7 of what the row of PoolTells stands on: contracts over the given program's functions, the plain law, the row; no condition beyond those that each theorem states. -/
import Derived.Test.YtkhbffjfclepfaaXPoolTells3
import Derived.Deep.RegionWith
section
namespace Go.Proofs.Ytkhbffjfclepfaa.Q
open Go.RowKit Go.Proofs.YtkhbffjfclepfaaW.PrintWords Go.Proofs.YtkhbffjfclepfaaW.PrintLast Go.Proofs.YtkhbffjfclepfaaW.PrintMore
set_option linter.unusedVariables false
set_option linter.unusedSimpArgs false
set_option maxHeartbeats 4000000 in
theorem b_Y.lacks (k : Nat) (gq gc gt gw : Nat) (l : List Int) (cpu tt n : Int) (v : Value) (base B0 : Nat) (w : World)
 (hq : w.heap[gq]? = some (.cells #[v] 26 (0,0))) (hR : Kd.R (Kd.int .u32) 31 w B0 (fun _ => True) v l)
 (hc : w.heap[gc]? = some (.cells #[.int .i64 cpu] 3 (0,0))) (ht : w.heap[gt]? = some (.cells #[.int .i64 tt] 3 (0,0))) (hw : w.heap[gw]? = some (.cells #[.int .i64 0] 3 (0,0)))
 (h0 : 0 ≤ tt) (h1 : tt < l.length) (hl : l.length < 35184372088832) (hB0 : ∀ g,g = gc ∨ g = gt ∨ g = gw → g < B0) (hB0w : B0 ≤ w.heap.size) (hbn : base ≤ gw) (hbB : base ≤ B0) (hBq : B0 ≤ gq) (htw : gt ≠ gw) (hcw : gc ≠ gw) (n0 : Int) (hof : b_k.f k l cpu = some (n0,false)) :
 Calls Try.prog 50 #[.pointer (some ⟨gq,0,none⟩),.pointer (some ⟨gc,0,none⟩),.pointer (some ⟨gt,0,none⟩),.pointer (some ⟨gw,0,none⟩)] w fun e W' => e = .returned (.int .i64 2) ∧ Below w.heap.size w W':=by
 obtain ⟨go,co,rfl,hgo,hgl,cl,HG⟩:=Kd.c_X hR (by omega)
 have HX0:=a_a.mk hB0w
 have HX1:=a_a.mk hbn
 have HX2:=a_a.mk hbB
 have HX3:=a_a.mk hBq
 have HT:=a_a.mk htw
 have HCW:=a_a.mk hcw
 clear hB0w hbn hbB hBq htw hcw
 have BKq:=a_a.mk hq
 have BKc:=a_a.mk hc
 have BKt:=a_a.mk ht
 have BKw:=a_a.mk hw
 have HO:=a_a.mk hR
 have cq : w.cell? ⟨gq,0,none⟩ = some (.slice (some ⟨go,0,none⟩) l.length co):=(a_j hq 0).trans rfl
 have cc : w.cell? ⟨gc,0,none⟩ = some (.int .i64 cpu):=(a_j hc 0).trans rfl
 have n1 : ¬ gq = gw:=by intro e;subst e;rw [hq] at hw;cases hw
 have n2 : ¬ gw = gq:=fun e => n1 e.symm
 have n3 : ¬ gc = go:=by have:=hB0 gc (by simp);omega
 have n4 : ¬ gt = go:=by have:=hB0 gt (by simp);omega
 have n5 : ¬ gw = go:=by have:=hB0 gw (by simp);omega
 have n6 : ¬ gq = go:=by intro e;subst e;rw [hq] at HG;cases HG
 have n7 : ¬ go = gw:=fun e => n5 e.symm
 have HC : a_a ((Kd.int .u32).C w (some ⟨go,0,none⟩) l.length l):=⟨(Kd.a_r hR).2.2⟩
 have HCAP:=a_a.mk (Kd.a_r hR).2.1
 have HGo:=a_a.mk hgo
 have HGl:=a_a.mk hgl
 clear hq hR hc ht hw hB0 HG hgo hgl
 have HOF:=a_a.mk hof
 clear hof
 go_enter Try.func50,Try.ntmps50
 go_wp2
 go_region_with (go_at_call 20;refine (b_k.calls k _ _ l cpu n0 false _ (Kd.a_T HC.out) HCAP.out HOF.out).mono ?_;rintro e w2 ⟨rfl,hb⟩;have HBD:=a_a.mk hb;clear hb)
 all_goals
  go_wp2
  go_ret
  exact ⟨rfl,(Below.refl _ w).drew.trans HBD.out⟩
set_option maxHeartbeats 4000000 in
theorem b_Y.there (k : Nat) (gq gc gt gw : Nat) (l : List Int) (cpu tt n : Int) (v : Value) (base B0 : Nat) (w : World)
 (hq : w.heap[gq]? = some (.cells #[v] 26 (0,0))) (hR : Kd.R (Kd.int .u32) 31 w B0 (fun _ => True) v l)
 (hc : w.heap[gc]? = some (.cells #[.int .i64 cpu] 3 (0,0))) (ht : w.heap[gt]? = some (.cells #[.int .i64 tt] 3 (0,0))) (hw : w.heap[gw]? = some (.cells #[.int .i64 0] 3 (0,0)))
 (h0 : 0 ≤ tt) (h1 : tt < l.length) (hl : l.length < 35184372088832) (hB0 : ∀ g,g = gc ∨ g = gt ∨ g = gw → g < B0) (hB0w : B0 ≤ w.heap.size) (hbn : base ≤ gw) (hbB : base ≤ B0) (hBq : B0 ≤ gq) (htw : gt ≠ gw) (hcw : gc ≠ gw) (hof : b_k.f k l cpu = some (n,true)) (he : n = tt) :
 Calls Try.prog 50 #[.pointer (some ⟨gq,0,none⟩),.pointer (some ⟨gc,0,none⟩),.pointer (some ⟨gt,0,none⟩),.pointer (some ⟨gw,0,none⟩)] w fun e W' => e = .returned (.int .i64 5) ∧ Below w.heap.size w W':=by
 obtain ⟨go,co,rfl,hgo,hgl,cl,HG⟩:=Kd.c_X hR (by omega)
 have HX0:=a_a.mk hB0w
 have HX1:=a_a.mk hbn
 have HX2:=a_a.mk hbB
 have HX3:=a_a.mk hBq
 have HT:=a_a.mk htw
 have HCW:=a_a.mk hcw
 clear hB0w hbn hbB hBq htw hcw
 have BKq:=a_a.mk hq
 have BKc:=a_a.mk hc
 have BKt:=a_a.mk ht
 have BKw:=a_a.mk hw
 have HO:=a_a.mk hR
 have cq : w.cell? ⟨gq,0,none⟩ = some (.slice (some ⟨go,0,none⟩) l.length co):=(a_j hq 0).trans rfl
 have cc : w.cell? ⟨gc,0,none⟩ = some (.int .i64 cpu):=(a_j hc 0).trans rfl
 have n1 : ¬ gq = gw:=by intro e;subst e;rw [hq] at hw;cases hw
 have n2 : ¬ gw = gq:=fun e => n1 e.symm
 have n3 : ¬ gc = go:=by have:=hB0 gc (by simp);omega
 have n4 : ¬ gt = go:=by have:=hB0 gt (by simp);omega
 have n5 : ¬ gw = go:=by have:=hB0 gw (by simp);omega
 have n6 : ¬ gq = go:=by intro e;subst e;rw [hq] at HG;cases HG
 have n7 : ¬ go = gw:=fun e => n5 e.symm
 have HC : a_a ((Kd.int .u32).C w (some ⟨go,0,none⟩) l.length l):=⟨(Kd.a_r hR).2.2⟩
 have HCAP:=a_a.mk (Kd.a_r hR).2.1
 have HGo:=a_a.mk hgo
 have HGl:=a_a.mk hgl
 clear hq hR hc ht hw hB0 HG hgo hgl
 have HOF:=a_a.mk hof
 have d1 : (n == tt) = true:=beq_iff_eq.mpr he
 clear hof he
 go_enter Try.func50,Try.ntmps50
 go_wp2
 go_region_with (go_at_call 20;refine (b_k.calls k _ _ l cpu n true _ (Kd.a_T HC.out) HCAP.out HOF.out).mono ?_;rintro e w2 ⟨rfl,hb⟩;have HBD:=a_a.mk hb;clear hb)
 all_goals
  have BKq2:=a_a.mk (a_e (a_t BKq.out) HBD.out)
  have BKt2:=a_a.mk (a_e (a_t BKt.out) HBD.out)
  have BKw2:=a_a.mk (a_e (a_t BKw.out) HBD.out)
  have BKc2:=a_a.mk (a_e (a_t BKc.out) HBD.out)
  have HO2:=a_a.mk (Kd.a_y (Kd.a_0 HO.out) HBD.out)
  have cq2 : w2.cell? ⟨gq,0,none⟩ = some (.slice (some ⟨go,0,none⟩) l.length co):=(a_j BKq2.out 0).trans rfl
  have ct2 : w2.cell? ⟨gt,0,none⟩ = some (.int .i64 tt):=(a_j BKt2.out 0).trans rfl
  have cc2 : w2.cell? ⟨gc,0,none⟩ = some (.int .i64 cpu):=(a_j BKc2.out 0).trans rfl
  go_wp2
  go_ret
  exact ⟨rfl,(Below.refl _ w).drew.trans HBD.out⟩
set_option maxHeartbeats 4000000 in
theorem b_Y.last (k : Nat) (gq gc gt gw : Nat) (l : List Int) (cpu tt n : Int) (v : Value) (base B0 : Nat) (w : World)
 (hq : w.heap[gq]? = some (.cells #[v] 26 (0,0))) (hR : Kd.R (Kd.int .u32) 31 w B0 (fun _ => True) v l)
 (hc : w.heap[gc]? = some (.cells #[.int .i64 cpu] 3 (0,0))) (ht : w.heap[gt]? = some (.cells #[.int .i64 tt] 3 (0,0))) (hw : w.heap[gw]? = some (.cells #[.int .i64 0] 3 (0,0)))
 (h0 : 0 ≤ tt) (h1 : tt < l.length) (hl : l.length < 35184372088832) (hB0 : ∀ g,g = gc ∨ g = gt ∨ g = gw → g < B0) (hB0w : B0 ≤ w.heap.size) (hbn : base ≤ gw) (hbB : base ≤ B0) (hBq : B0 ≤ gq) (htw : gt ≠ gw) (hcw : gc ≠ gw) (hof : b_k.f k l cpu = some (n,true)) (he : n ≠ tt) (hn0 : 0 ≤ n) (hn1 : n < l.length) (hcn : b_V.f (rd l n) = some 1) :
 Calls Try.prog 50 #[.pointer (some ⟨gq,0,none⟩),.pointer (some ⟨gc,0,none⟩),.pointer (some ⟨gt,0,none⟩),.pointer (some ⟨gw,0,none⟩)] w fun e W' => e = .returned (.int .i64 181) ∧ Below w.heap.size w W':=by
 obtain ⟨go,co,rfl,hgo,hgl,cl,HG⟩:=Kd.c_X hR (by omega)
 have HX0:=a_a.mk hB0w
 have HX1:=a_a.mk hbn
 have HX2:=a_a.mk hbB
 have HX3:=a_a.mk hBq
 have HT:=a_a.mk htw
 have HCW:=a_a.mk hcw
 clear hB0w hbn hbB hBq htw hcw
 have BKq:=a_a.mk hq
 have BKc:=a_a.mk hc
 have BKt:=a_a.mk ht
 have BKw:=a_a.mk hw
 have HO:=a_a.mk hR
 have cq : w.cell? ⟨gq,0,none⟩ = some (.slice (some ⟨go,0,none⟩) l.length co):=(a_j hq 0).trans rfl
 have cc : w.cell? ⟨gc,0,none⟩ = some (.int .i64 cpu):=(a_j hc 0).trans rfl
 have n1 : ¬ gq = gw:=by intro e;subst e;rw [hq] at hw;cases hw
 have n2 : ¬ gw = gq:=fun e => n1 e.symm
 have n3 : ¬ gc = go:=by have:=hB0 gc (by simp);omega
 have n4 : ¬ gt = go:=by have:=hB0 gt (by simp);omega
 have n5 : ¬ gw = go:=by have:=hB0 gw (by simp);omega
 have n6 : ¬ gq = go:=by intro e;subst e;rw [hq] at HG;cases HG
 have n7 : ¬ go = gw:=fun e => n5 e.symm
 have HC : a_a ((Kd.int .u32).C w (some ⟨go,0,none⟩) l.length l):=⟨(Kd.a_r hR).2.2⟩
 have HCAP:=a_a.mk (Kd.a_r hR).2.1
 have HGo:=a_a.mk hgo
 have HGl:=a_a.mk hgl
 clear hq hR hc ht hw hB0 HG hgo hgl
 have HOF:=a_a.mk hof
 have HN0:=a_a.mk hn0
 have HN1:=a_a.mk hn1
 have HCN:=a_a.mk hcn
 have d1 : (n == tt) = false:=beq_eq_false_iff_ne.mpr he
 clear hof he hcn hn0 hn1
 go_enter Try.func50,Try.ntmps50
 go_wp2
 go_region_with (go_at_call 20;refine (b_k.calls k _ _ l cpu n true _ (Kd.a_T HC.out) HCAP.out HOF.out).mono ?_;rintro e w2 ⟨rfl,hb⟩;have HBD:=a_a.mk hb;clear hb)
 all_goals
  have BKq2:=a_a.mk (a_e (a_t BKq.out) HBD.out)
  have BKt2:=a_a.mk (a_e (a_t BKt.out) HBD.out)
  have BKw2:=a_a.mk (a_e (a_t BKw.out) HBD.out)
  have BKc2:=a_a.mk (a_e (a_t BKc.out) HBD.out)
  have HO2:=a_a.mk (Kd.a_y (Kd.a_0 HO.out) HBD.out)
  have cq2 : w2.cell? ⟨gq,0,none⟩ = some (.slice (some ⟨go,0,none⟩) l.length co):=(a_j BKq2.out 0).trans rfl
  have ct2 : w2.cell? ⟨gt,0,none⟩ = some (.int .i64 tt):=(a_j BKt2.out 0).trans rfl
  have cc2 : w2.cell? ⟨gc,0,none⟩ = some (.int .i64 cpu):=(a_j BKc2.out 0).trans rfl
  have d4 : (0 ≤ n) = True:=eq_true HN0.out
  have d5 : (n < (l.length : Int)) = True:=eq_true HN1.out
  obtain ⟨ce,fe⟩:=Kd.c_n 0 HO2.out n HN0.out HN1.out
  rw [show rdOf 0 l n = rd l n from rfl] at ce
  go_wp2_with (go_at_call 51;refine (b_V.calls (rd l n) 1 _ HCN.out).mono ?_;rintro e w3 ⟨rfl,nd,rfl⟩)
  go_ret
  exact ⟨rfl,((Below.refl _ w).drew.trans HBD.out).trans ((a_d (Below.refl _ _) nd).mono HBD.out.size)⟩
set_option maxHeartbeats 4000000 in
theorem b_Y.ok (k : Nat) (gq gc gt gw : Nat) (l : List Int) (cpu tt n : Int) (v : Value) (base B0 : Nat) (w : World)
 (hq : w.heap[gq]? = some (.cells #[v] 26 (0,0))) (hR : Kd.R (Kd.int .u32) 31 w B0 (fun _ => True) v l)
 (hc : w.heap[gc]? = some (.cells #[.int .i64 cpu] 3 (0,0))) (ht : w.heap[gt]? = some (.cells #[.int .i64 tt] 3 (0,0))) (hw : w.heap[gw]? = some (.cells #[.int .i64 0] 3 (0,0)))
 (h0 : 0 ≤ tt) (h1 : tt < l.length) (hl : l.length < 35184372088832) (hB0 : ∀ g,g = gc ∨ g = gt ∨ g = gw → g < B0) (hB0w : B0 ≤ w.heap.size) (hbn : base ≤ gw) (hbB : base ≤ B0) (hBq : B0 ≤ gq) (htw : gt ≠ gw) (hcw : gc ≠ gw) (hof : b_k.f k l cpu = some (n,true)) (he : n ≠ tt) (hn0 : 0 ≤ n) (hn1 : n < l.length) (c : Int) (hcn : b_V.f (rd l n) = some c) (hc1 : c ≠ 1) (hc0 : 0 ≤ cpu) (hc8 : cpu < 8) (b : Int) (hb : shl .u32 1 cpu = b) :
 Calls Try.prog 50 #[.pointer (some ⟨gq,0,none⟩),.pointer (some ⟨gc,0,none⟩),.pointer (some ⟨gt,0,none⟩),.pointer (some ⟨gw,0,none⟩)] w fun e W' => e = .returned (.int .i64 0) ∧ Below base w W' ∧ W'.heap[gw]? = some (.cells #[.int .i64 n] 3 (0,0)) ∧ (∀ k,k < w.heap.size → k ≠ gq → k ≠ gw → some k ≠ v.ownBlock → W'.heap[k]? = w.heap[k]?) ∧ ∃ v',W'.heap[gq]? = some (.cells #[v'] 26 (0,0)) ∧ Kd.R (Kd.int .u32) 31 W' B0 (fun _ => True) v' ((l.set n.toNat (bits .andNot .u32 (rd l n) b)).set tt.toNat (bits .or .u32 (rd l tt) b)):=by
 obtain ⟨go,co,rfl,hgo,hgl,cl,HG⟩:=Kd.c_X hR (by omega)
 have HX0:=a_a.mk hB0w
 have HX1:=a_a.mk hbn
 have HX2:=a_a.mk hbB
 have HX3:=a_a.mk hBq
 have HT:=a_a.mk htw
 have HCW:=a_a.mk hcw
 clear hB0w hbn hbB hBq htw hcw
 have BKq:=a_a.mk hq
 have BKc:=a_a.mk hc
 have BKt:=a_a.mk ht
 have BKw:=a_a.mk hw
 have HO:=a_a.mk hR
 have cq : w.cell? ⟨gq,0,none⟩ = some (.slice (some ⟨go,0,none⟩) l.length co):=(a_j hq 0).trans rfl
 have cc : w.cell? ⟨gc,0,none⟩ = some (.int .i64 cpu):=(a_j hc 0).trans rfl
 have n1 : ¬ gq = gw:=by intro e;subst e;rw [hq] at hw;cases hw
 have n2 : ¬ gw = gq:=fun e => n1 e.symm
 have n3 : ¬ gc = go:=by have:=hB0 gc (by simp);omega
 have n4 : ¬ gt = go:=by have:=hB0 gt (by simp);omega
 have n5 : ¬ gw = go:=by have:=hB0 gw (by simp);omega
 have n6 : ¬ gq = go:=by intro e;subst e;rw [hq] at HG;cases HG
 have n7 : ¬ go = gw:=fun e => n5 e.symm
 have HC : a_a ((Kd.int .u32).C w (some ⟨go,0,none⟩) l.length l):=⟨(Kd.a_r hR).2.2⟩
 have HCAP:=a_a.mk (Kd.a_r hR).2.1
 have HGo:=a_a.mk hgo
 have HGl:=a_a.mk hgl
 clear hq hR hc ht hw hB0 HG hgo hgl
 have HOF:=a_a.mk hof
 have HN0:=a_a.mk hn0
 have HN1:=a_a.mk hn1
 have HT0:=a_a.mk h0
 have HT1:=a_a.mk h1
 have HCN:=a_a.mk hcn
 have d1 : (n == tt) = false:=beq_eq_false_iff_ne.mpr he
 have d2 : (c == 1) = false:=beq_eq_false_iff_ne.mpr hc1
 have d3 : (0 ≤ cpu) = True:=eq_true hc0
 have d8 : (cpu < 8) = True:=eq_true hc8
 have HNE:=a_a.mk he
 have hsb : IntKind.u32.wrap (2 ^ cpu.toNat) = b:=by have h_:=d_F hb (by have : ((IntKind.bits .u32 : Nat) : Int) = 32:=rfl;omega);rw [Int.one_mul] at h_;exact h_
 clear hof he hcn hn0 hn1 hc1 hb h0 h1
 go_enter Try.func50,Try.ntmps50
 go_wp2
 go_region_with (go_at_call 20;refine (b_k.calls k _ _ l cpu n true _ (Kd.a_T HC.out) HCAP.out HOF.out).mono ?_;rintro e w2 ⟨rfl,hb⟩;have HBD:=a_a.mk hb;clear hb)
 all_goals
  have BKq2:=a_a.mk (a_e (a_t BKq.out) HBD.out)
  have BKt2:=a_a.mk (a_e (a_t BKt.out) HBD.out)
  have BKw2:=a_a.mk (a_e (a_t BKw.out) HBD.out)
  have BKc2:=a_a.mk (a_e (a_t BKc.out) HBD.out)
  have HO2:=a_a.mk (Kd.a_y (Kd.a_0 HO.out) HBD.out)
  have cq2 : w2.cell? ⟨gq,0,none⟩ = some (.slice (some ⟨go,0,none⟩) l.length co):=(a_j BKq2.out 0).trans rfl
  have ct2 : w2.cell? ⟨gt,0,none⟩ = some (.int .i64 tt):=(a_j BKt2.out 0).trans rfl
  have cc2 : w2.cell? ⟨gc,0,none⟩ = some (.int .i64 cpu):=(a_j BKc2.out 0).trans rfl
  have d4 : (0 ≤ n) = True:=eq_true HN0.out
  have d5 : (n < (l.length : Int)) = True:=eq_true HN1.out
  obtain ⟨ce,fe⟩:=Kd.c_n 0 HO2.out n HN0.out HN1.out
  rw [show rdOf 0 l n = rd l n from rfl] at ce
  have d6 : (0 ≤ tt) = True:=eq_true HT0.out
  have d7 : (tt < (l.length : Int)) = True:=eq_true HT1.out
  obtain ⟨ce2,fe2⟩:=Kd.c_n 0 HO2.out tt HT0.out HT1.out
  rw [show rdOf 0 l tt = rd l tt from rfl] at ce2
  have cw2 : w2.cell? ⟨gw,0,none⟩ = some (.int .i64 0):=(a_j BKw2.out 0).trans rfl
  have fw2:=a_k BKw2.out 0
  have n8 : ¬ gc = gw:=HCW.out
  have n9 : ¬ gt = gw:=HT.out
  go_wp2_with (go_at_call 51;refine (b_V.calls (rd l n) c _ HCN.out).mono ?_;rintro e w3 ⟨rfl,nd,rfl⟩)
  have HO3 : a_a (Kd.R (Kd.int .u32) 31 ((w2.drewN nd).setCell ⟨gw,0,none⟩ (.int .i64 n)) B0 (fun _ => True) (.slice (some ⟨go,0,none⟩) l.length co) l):=⟨Kd.c_J (Kd.a_1 HO2.out _) (a_u BKw2.out _) (by decide) 0 _⟩
  have BKq3 : a_a (((w2.drewN nd).setCell ⟨gw,0,none⟩ (.int .i64 n)).heap[gq]? = some (.cells #[.slice (some ⟨go,0,none⟩) l.length co] 26 (0,0))):=⟨a_Q (a_u BKq2.out _) (p:=⟨gw,0,none⟩) n1 _⟩
  have BKt3 : a_a (((w2.drewN nd).setCell ⟨gw,0,none⟩ (.int .i64 n)).heap[gt]? = some (.cells #[.int .i64 tt] 3 (0,0))):=⟨a_Q (a_u BKt2.out _) (p:=⟨gw,0,none⟩) n9 _⟩
  have BKw3 : a_a (((w2.drewN nd).setCell ⟨gw,0,none⟩ (.int .i64 n)).heap[gw]? = some (.cells #[.int .i64 n] 3 (0,0))):=⟨b_q (cs:=#[.int .i64 0]) (a_u BKw2.out _) 0 _ rfl⟩
  have FB : a_a (Below base w ((w2.drewN nd).setCell ⟨gw,0,none⟩ (.int .i64 n))):=⟨((((Below.refl _ w).drew.trans HBD.out).trans ((a_d (Below.refl _ _) nd).mono HBD.out.size)).mono (Nat.le_trans HX2.out HX0.out)).setCell (p:=⟨gw,0,none⟩) HX1.out _⟩
  have FK : a_a (∀ k,k < w.heap.size → k ≠ gw → ((w2.drewN nd).setCell ⟨gw,0,none⟩ (.int .i64 n)).heap[k]? = w.heap[k]?):=⟨fun k k1 k2 => (Below.heap_setCell _ ⟨gw,0,none⟩ _ k k2).trans (HBD.out.block k k1)⟩
  generalize (w2.drewN nd).setCell ⟨gw,0,none⟩ (.int .i64 n) = w4 at HO3 BKq3 BKt3 BKw3 FB FK ⊢
  clear ce ce2 fe fe2 cq2 ct2 cc2 cw2 fw2 hsb
  have cq2 : w4.cell? ⟨gq,0,none⟩ = some (.slice (some ⟨go,0,none⟩) l.length co):=(a_j BKq3.out 0).trans rfl
  have ct2 : w4.cell? ⟨gt,0,none⟩ = some (.int .i64 tt):=(a_j BKt3.out 0).trans rfl
  obtain ⟨ce,fe⟩:=Kd.c_n 0 HO3.out n HN0.out HN1.out
  rw [show rdOf 0 l n = rd l n from rfl] at ce
  obtain ⟨ce2,fe2⟩:=Kd.c_n 0 HO3.out tt HT0.out HT1.out
  rw [show rdOf 0 l tt = rd l tt from rfl] at ce2
  have n10 : ¬ n.toNat = tt.toNat:=by have:=HN0.out;have:=HT0.out;have:=HNE.out;omega
  have n11 : ¬ tt.toNat = n.toNat:=fun e_ => n10 e_.symm
  go_region
  all_goals
   go_wp2
   go_ret
   refine ⟨rfl,?_,?_,?_,.slice (some ⟨go,0,none⟩) l.length co,?_,?_⟩
   ·exact ((FB.out.setCell (p:=⟨go,n.toNat,none⟩) (Nat.le_trans HX2.out HGo.out) _).setCell (p:=⟨go,tt.toNat,none⟩) (Nat.le_trans HX2.out HGo.out) _).drew
   ·exact a_t (a_Q (a_Q BKw3.out (p:=⟨go,n.toNat,none⟩) n5 _) (p:=⟨go,tt.toNat,none⟩) n5 _)
   ·exact fun k_ k1 k2 k3 k4 => (Below.heap_setCell _ ⟨go,tt.toNat,none⟩ _ k_ (fun e_ => k4 (by rw [e_];rfl))).trans ((Below.heap_setCell _ ⟨go,n.toNat,none⟩ _ k_ (fun e_ => k4 (by rw [e_];rfl))).trans (FK.out k_ k1 k3))
   ·exact a_t (a_Q (a_Q BKq3.out (p:=⟨go,n.toNat,none⟩) n6 _) (p:=⟨go,tt.toNat,none⟩) n6 _)
   ·exact Kd.a_0 (Kd.f_Z (Kd.f_Z HO3.out n _) tt _)
def e_z (k : Nat) (l : List Int) (cpu tt : Int) : Option (Int × List Int × Int) :=
 (b_k.f k l cpu).bind fun x => if x.2 = false then some (2,[],0) else if x.1 = tt then some (5,[],0) else if 0 ≤ x.1 ∧ x.1 < l.length ∧ 0 ≤ cpu ∧ cpu < 8 then (b_V.f (rd l x.1)).bind fun c => if c = 1 then some (181,[],0) else some (0,(l.set x.1.toNat (bits .andNot .u32 (rd l x.1) (shl .u32 1 cpu))).set tt.toNat (bits .or .u32 (rd l tt) (shl .u32 1 cpu)),x.1) else none
theorem b_Y.any (k : Nat) (gq gc gt gw : Nat) (l : List Int) (cpu tt : Int) (v : Value) (base B0 : Nat) (w : World) (err n : Int) (l' : List Int)
 (hq : w.heap[gq]? = some (.cells #[v] 26 (0,0))) (hR : Kd.R (Kd.int .u32) 31 w B0 (fun _ => True) v l)
 (hc : w.heap[gc]? = some (.cells #[.int .i64 cpu] 3 (0,0))) (ht : w.heap[gt]? = some (.cells #[.int .i64 tt] 3 (0,0))) (hw : w.heap[gw]? = some (.cells #[.int .i64 0] 3 (0,0)))
 (h0 : 0 ≤ tt) (h1 : tt < l.length) (hl : l.length < 35184372088832) (hB0 : ∀ g,g = gc ∨ g = gt ∨ g = gw → g < B0) (hB0w : B0 ≤ w.heap.size) (hbn : base ≤ gw) (hbB : base ≤ B0) (hBq : B0 ≤ gq) (htw : gt ≠ gw) (hcw : gc ≠ gw) (h : e_z k l cpu tt = some (err,l',n)) :
 Calls Try.prog 50 #[.pointer (some ⟨gq,0,none⟩),.pointer (some ⟨gc,0,none⟩),.pointer (some ⟨gt,0,none⟩),.pointer (some ⟨gw,0,none⟩)] w fun e W' => e = .returned (.int .i64 err) ∧ Below base w W' ∧ W'.heap[gw]? = some (.cells #[.int .i64 n] 3 (0,0)) ∧ (∀ k,k < w.heap.size → k ≠ gq → k ≠ gw → some k ≠ v.ownBlock → W'.heap[k]? = w.heap[k]?) ∧ (err = 0 → ∃ v',W'.heap[gq]? = some (.cells #[v'] 26 (0,0)) ∧ Kd.R (Kd.int .u32) 31 W' B0 (fun _ => True) v' l'):=by
 have still : ∀ (er : Int),er ≠ 0 → er = err → 0 = n → ∀ (e : Ending) (W' : World),(e = .returned (.int .i64 er) ∧ Below w.heap.size w W') → e = .returned (.int .i64 err) ∧ Below base w W' ∧ W'.heap[gw]? = some (.cells #[.int .i64 n] 3 (0,0)) ∧ (∀ k,k < w.heap.size → k ≠ gq → k ≠ gw → some k ≠ v.ownBlock → W'.heap[k]? = w.heap[k]?) ∧ (err = 0 → ∃ v',W'.heap[gq]? = some (.cells #[v'] 26 (0,0)) ∧ Kd.R (Kd.int .u32) 31 W' B0 (fun _ => True) v' l'):=by
  rintro er h1 rfl rfl e W' ⟨rfl,hb⟩
  exact ⟨rfl,hb.mono (Nat.le_trans hbB hB0w),a_e hw hb,fun k k1 _ _ _ => hb.block k k1,fun h => absurd h h1⟩
 unfold e_z at h
 obtain ⟨⟨n0,b⟩,hof,h⟩:=Option.bind_eq_some_iff.mp h
 dsimp only at h
 cases b
 ·rw [if_pos rfl] at h
  injection h with h;injection h with e1 h;injection h with e2 e3
  exact (b_Y.lacks k gq gc gt gw l cpu tt n v base B0 w hq hR hc ht hw h0 h1 hl hB0 hB0w hbn hbB hBq htw hcw n0 hof).mono (fun e W' => still 2 (by decide) e1 e3 e W')
 rw [if_neg (by simp)] at h
 by_cases he : n0 = tt
 ·rw [if_pos he] at h
  injection h with h;injection h with e1 h;injection h with e2 e3
  exact (b_Y.there k gq gc gt gw l cpu tt n0 v base B0 w hq hR hc ht hw h0 h1 hl hB0 hB0w hbn hbB hBq htw hcw hof he).mono (fun e W' => still 5 (by decide) e1 e3 e W')
 rw [if_neg he] at h
 split at h
 case isFalse => cases h
 case isTrue hn =>
 obtain ⟨hn0,hn1,hc0,hc8⟩:=hn
 obtain ⟨c,hcn,h⟩:=Option.bind_eq_some_iff.mp h
 by_cases c1 : c = 1
 ·subst c1
  rw [if_pos rfl] at h
  injection h with h;injection h with e1 h;injection h with e2 e3
  exact (b_Y.last k gq gc gt gw l cpu tt n0 v base B0 w hq hR hc ht hw h0 h1 hl hB0 hB0w hbn hbB hBq htw hcw hof he hn0 hn1 hcn).mono (fun e W' => still 181 (by decide) e1 e3 e W')
 rw [if_neg c1] at h
 injection h with h;injection h with e1 h;injection h with e2 e3
 subst e1 e2 e3
 refine (b_Y.ok k gq gc gt gw l cpu tt n0 v base B0 w hq hR hc ht hw h0 h1 hl hB0 hB0w hbn hbB hBq htw hcw hof he hn0 hn1 c hcn c1 hc0 hc8 _ rfl).mono ?_
 rintro e W' ⟨rfl,a1,a2,a3,a4⟩
 exact ⟨rfl,a1,a2,a3,fun _ => a4⟩
set_option maxHeartbeats 4000000 in
theorem b_p.does (k : Nat) (ad : Addr) (c0 : Nat) (l : List Int) (a b err n : Int) (l' : List Int) (w : World) (hr : Kd.C (Kd.int .u32) w (some ad) l.length l) (hc : l.length ≤ c0) (hl : l.length < 35184372088832)
 (hec : a_s.f k l = some 0) (hp : b_l.f l [b] = some true) (h0 : 0 ≤ b) (h1 : b < l.length) (hs : e_z k l a b = some (err,l',n)) (L : List Int) (hL : L = if err = 0 then l' else []) :
 Calls Try.prog 31 #[.agg #[.slice (some ad) l.length c0],.int .i64 a,.int .i64 b] w fun e w' => ∃ v0_ : Value,e = .returned (.tuple #[.agg #[v0_],.int .i64 n,.int .i64 err]) ∧ Kd.R (Kd.int .u32) 31 w' w.heap.size (fun _ => True) v0_ L ∧ Below w.heap.size w w':=by
 have HLL:=a_a.mk hL
 clear hL
 have HR:=a_a.mk hr
 have HC:=a_a.mk hc
 have HE:=a_a.mk hec
 have HP:=a_a.mk hp
 have HL:=a_a.mk hl
 have HS:=a_a.mk hs
 have H0:=a_a.mk h0
 have H1:=a_a.mk h1
 have EG:=a_a.mk (d_p Try.func50 (by kernel_rfl) rfl)
 clear hr hc hec hp hl hs h0 h1
 have HB:=a_a.mk (Below.refl w.heap.size w)
 go_enter Try.func31,Try.ntmps31
 go_wp2_with (first
  | ((with_reducible refine a_E (N:=3) rfl ?_);refine a_D ?hg (N:=3) ?hd (cs:=#[.slice (some ad) l.length c0]) (t:=26) ?hr ?_;(case hd => rfl);(case hg => rfl);(case hr => first|(go_simp;done)|(go_simp;rfl));intro gbp hg wbp hbox hb;have m0_:=a_a.mk (a_i HB.out hb);have m1_:=a_a.mk (hbox);have m2_:=a_a.mk ((by rw [hg];exact HB.out.size : w.heap.size ≤ gbp));(try clear HB);have HB:=m0_;have BKp:=m1_;have GEp:=m2_;clear m0_ m1_ m2_ hb hbox hg)
  | ((with_reducible refine a_E (N:=4) rfl ?_);refine a_D ?hg (N:=4) ?hd (cs:=#[.int .i64 a]) (t:=3) ?hr ?_;(case hd => rfl);(case hg => rfl);(case hr => first|(go_simp;done)|(go_simp;rfl));intro gba hg wba hbox hb;have m0_:=a_a.mk (a_e (g:=gbp) (o:=.cells #[.slice (some ad) l.length c0] 26 (0,0)) BKp.out hb);have m1_:=a_a.mk (a_i HB.out hb);have m2_:=a_a.mk (hbox);have m3_:=a_a.mk ((by rw [hg];exact HB.out.size : w.heap.size ≤ gba));have m4_:=a_a.mk ((by rw [hg];exact Nat.ne_of_lt (a_p BKp.out) : gbp ≠ gba));have m5_:=a_a.mk ((by rw [hg];exact Nat.ne_of_gt (a_p BKp.out) : gba ≠ gbp));(try clear BKp);(try clear HB);have BKp:=m0_;have HB:=m1_;have BKa:=m2_;have GEa:=m3_;have NBp_a:=m4_;have NBa_p:=m5_;clear m0_ m1_ m2_ m3_ m4_ m5_ hb hbox hg)
  | ((with_reducible refine a_E (N:=5) rfl ?_);refine a_D ?hg (N:=5) ?hd (cs:=#[.int .i64 b]) (t:=3) ?hr ?_;(case hd => rfl);(case hg => rfl);(case hr => first|(go_simp;done)|(go_simp;rfl));intro gbb hg wbb hbox hb;have m0_:=a_a.mk (a_e (g:=gbp) (o:=.cells #[.slice (some ad) l.length c0] 26 (0,0)) BKp.out hb);have m1_:=a_a.mk (a_e (g:=gba) (o:=.cells #[.int .i64 a] 3 (0,0)) BKa.out hb);have m2_:=a_a.mk (a_i HB.out hb);have m3_:=a_a.mk (hbox);have m4_:=a_a.mk ((by rw [hg];exact HB.out.size : w.heap.size ≤ gbb));have m5_:=a_a.mk ((by rw [hg];exact Nat.ne_of_lt (a_p BKp.out) : gbp ≠ gbb));have m6_:=a_a.mk ((by rw [hg];exact Nat.ne_of_gt (a_p BKp.out) : gbb ≠ gbp));have m7_:=a_a.mk ((by rw [hg];exact Nat.ne_of_lt (a_p BKa.out) : gba ≠ gbb));have m8_:=a_a.mk ((by rw [hg];exact Nat.ne_of_gt (a_p BKa.out) : gbb ≠ gba));(try clear BKp);(try clear BKa);(try clear HB);have BKp:=m0_;have BKa:=m1_;have HB:=m2_;have BKb:=m3_;have GEb:=m4_;have NBp_b:=m5_;have NBb_p:=m6_;have NBa_b:=m7_;have NBb_a:=m8_;clear m0_ m1_ m2_ m3_ m4_ m5_ m6_ m7_ m8_ hb hbox hg)
  | ((with_reducible refine a_E (N:=6) rfl ?_);refine a_D ?hg (N:=6) ?hd (cs:=#[.slice none 0 0]) (t:=26) ?hr ?_;(case hd => rfl);(case hg => rfl);(case hr => first|(go_simp;done)|(go_simp;rfl));intro gbq hg wbq hbox hb;have m0_:=a_a.mk (a_e (g:=gbp) (o:=.cells #[.slice (some ad) l.length c0] 26 (0,0)) BKp.out hb);have m1_:=a_a.mk (a_e (g:=gba) (o:=.cells #[.int .i64 a] 3 (0,0)) BKa.out hb);have m2_:=a_a.mk (a_e (g:=gbb) (o:=.cells #[.int .i64 b] 3 (0,0)) BKb.out hb);have m3_:=a_a.mk (a_i HB.out hb);have m4_:=a_a.mk (hbox);have m5_:=a_a.mk ((by rw [hg];exact HB.out.size : w.heap.size ≤ gbq));have m6_:=a_a.mk ((by rw [hg];exact Nat.ne_of_lt (a_p BKp.out) : gbp ≠ gbq));have m7_:=a_a.mk ((by rw [hg];exact Nat.ne_of_gt (a_p BKp.out) : gbq ≠ gbp));have m8_:=a_a.mk ((by rw [hg];exact Nat.ne_of_lt (a_p BKa.out) : gba ≠ gbq));have m9_:=a_a.mk ((by rw [hg];exact Nat.ne_of_gt (a_p BKa.out) : gbq ≠ gba));have m10_:=a_a.mk ((by rw [hg];exact Nat.ne_of_lt (a_p BKb.out) : gbb ≠ gbq));have m11_:=a_a.mk ((by rw [hg];exact Nat.ne_of_gt (a_p BKb.out) : gbq ≠ gbb));(try clear BKp);(try clear BKa);(try clear BKb);(try clear HB);have BKp:=m0_;have BKa:=m1_;have BKb:=m2_;have HB:=m3_;have BKq:=m4_;have GEq:=m5_;have NBp_q:=m6_;have NBq_p:=m7_;have NBa_q:=m8_;have NBq_a:=m9_;have NBb_q:=m10_;have NBq_b:=m11_;clear m0_ m1_ m2_ m3_ m4_ m5_ m6_ m7_ m8_ m9_ m10_ m11_ hb hbox hg)
  | ((with_reducible refine a_E (N:=9) rfl ?_);refine a_D ?hg (N:=9) ?hd (cs:=#[.int .i64 0]) (t:=3) ?hr ?_;(case hd => rfl);(case hg => rfl);(case hr => first|(go_simp;done)|(go_simp;rfl));intro gbn hg wbn hbox hb;have m0_:=a_a.mk (a_e (g:=gbp) (o:=.cells #[.slice (some ad) l.length c0] 26 (0,0)) BKp.out hb);have m1_:=a_a.mk (a_e (g:=gba) (o:=.cells #[.int .i64 a] 3 (0,0)) BKa.out hb);have m2_:=a_a.mk (a_e (g:=gbb) (o:=.cells #[.int .i64 b] 3 (0,0)) BKb.out hb);have m3_:=a_a.mk (a_e (g:=gbq) (o:=.cells #[.slice none 0 0] 26 (0,0)) BKq.out hb);have m4_:=a_a.mk (a_i HB.out hb);have m5_:=a_a.mk (hbox);have m6_:=a_a.mk ((by rw [hg];exact HB.out.size : w.heap.size ≤ gbn));have m7_:=a_a.mk ((by rw [hg];exact Nat.ne_of_lt (a_p BKp.out) : gbp ≠ gbn));have m8_:=a_a.mk ((by rw [hg];exact Nat.ne_of_gt (a_p BKp.out) : gbn ≠ gbp));have m9_:=a_a.mk ((by rw [hg];exact Nat.ne_of_lt (a_p BKa.out) : gba ≠ gbn));have m10_:=a_a.mk ((by rw [hg];exact Nat.ne_of_gt (a_p BKa.out) : gbn ≠ gba));have m11_:=a_a.mk ((by rw [hg];exact Nat.ne_of_lt (a_p BKb.out) : gbb ≠ gbn));have m12_:=a_a.mk ((by rw [hg];exact Nat.ne_of_gt (a_p BKb.out) : gbn ≠ gbb));have m13_:=a_a.mk ((by rw [hg];exact Nat.ne_of_lt (a_p BKq.out) : gbq ≠ gbn));have m14_:=a_a.mk ((by rw [hg];exact Nat.ne_of_gt (a_p BKq.out) : gbn ≠ gbq));(try clear BKp);(try clear BKa);(try clear BKb);(try clear BKq);(try clear HB);have BKp:=m0_;have BKa:=m1_;have BKb:=m2_;have BKq:=m3_;have HB:=m4_;have BKn:=m5_;have GEn:=m6_;have NBp_n:=m7_;have NBn_p:=m8_;have NBa_n:=m9_;have NBn_a:=m10_;have NBb_n:=m11_;have NBn_b:=m12_;have NBq_n:=m13_;have NBn_q:=m14_;clear m0_ m1_ m2_ m3_ m4_ m5_ m6_ m7_ m8_ m9_ m10_ m11_ m12_ m13_ m14_ hb hbox hg;have hcz1_n_0 : World.cell? _ ⟨gbn,0,none⟩ = some (.int .i64 0):=(a_j BKn.out 0).trans rfl;have hfz1_n:=a_k BKn.out 0)
  | ((with_reducible refine b_J (t:=3) (p:=9) rfl ?_);refine b_E (t:=3) (p:=9) (v:=?vo_ws2) (w1:=(wbn.setCell ⟨gbn,0,none⟩ (.int .i64 0))) ?hg ?ho ?hn ?hr ?_;(case ho => rfl);(case hg => rfl);(case hn => rfl);(case hr => first|(go_simp;done)|(go_simp;rfl));intro ws2 hw;have m0_:=a_a.mk ((show ws2.heap[gbp]? = some (.cells #[.slice (some ad) l.length c0] 26 (0,0)) by rw [hw];exact a_Q BKp.out (p:=⟨gbn,0,none⟩) NBp_n.out _));have m1_:=a_a.mk ((show ws2.heap[gba]? = some (.cells #[.int .i64 a] 3 (0,0)) by rw [hw];exact a_Q BKa.out (p:=⟨gbn,0,none⟩) NBa_n.out _));have m2_:=a_a.mk ((show ws2.heap[gbb]? = some (.cells #[.int .i64 b] 3 (0,0)) by rw [hw];exact a_Q BKb.out (p:=⟨gbn,0,none⟩) NBb_n.out _));have m3_:=a_a.mk ((show ws2.heap[gbq]? = some (.cells #[.slice none 0 0] 26 (0,0)) by rw [hw];exact a_Q BKq.out (p:=⟨gbn,0,none⟩) NBq_n.out _));have m4_:=a_a.mk ((show ws2.heap[gbn]? = some (.cells #[.int .i64 0] 3 (0,0)) by rw [hw];exact b_q (cs:=#[.int .i64 0]) BKn.out 0 _ rfl));have m5_:=a_a.mk ((show Below w.heap.size w ws2 by rw [hw];exact a_c HB.out GEn.out));clear hw BKp BKa BKb BKq BKn HB;have BKp:=m0_;have BKa:=m1_;have BKb:=m2_;have BKq:=m3_;have BKn:=m4_;have HB:=m5_;clear m0_ m1_ m2_ m3_ m4_ m5_;have hcz3_p_0 : World.cell? _ ⟨gbp,0,none⟩ = some (.slice (some ad) l.length c0):=(a_j BKp.out 0).trans rfl;have hfz3_p:=a_k BKp.out 0;have hcz3_a_0 : World.cell? _ ⟨gba,0,none⟩ = some (.int .i64 a):=(a_j BKa.out 0).trans rfl;have hfz3_a:=a_k BKa.out 0;have hcz3_b_0 : World.cell? _ ⟨gbb,0,none⟩ = some (.int .i64 b):=(a_j BKb.out 0).trans rfl;have hfz3_b:=a_k BKb.out 0)
  | ((with_reducible refine a_E (N:=16) rfl ?_);refine Kd.d_N (Kd.int .i64) _ 3 ?hg (N:=16) ?hd (xs:=([b] : List Int)) (inner:=[.int .i64 b]) (ok:=fun _ => True) (okp:=fun _ => True) ?hr ?hp (fun _ hk => hk) trivial (Below.refl _ _) (Nat.le_refl _) (by simp) ?_;(case hd => rfl);(case hg => rfl);(case hr => first|(go_simp;done)|(go_simp;rfl));(case hp => exact (Reps.one (show Kd.M (Kd.int .i64) _ _ _ b [.int .i64 b] from rfl) (Reps.none _ _)));intro vns wl4 ho_ hb hg_ hnew_;clear hg_ hnew_;have m0_:=a_a.mk (a_e (g:=gbp) (o:=.cells #[.slice (some ad) l.length c0] 26 (0,0)) BKp.out hb);have m1_:=a_a.mk (a_e (g:=gba) (o:=.cells #[.int .i64 a] 3 (0,0)) BKa.out hb);have m2_:=a_a.mk (a_e (g:=gbb) (o:=.cells #[.int .i64 b] 3 (0,0)) BKb.out hb);have m3_:=a_a.mk (a_e (g:=gbq) (o:=.cells #[.slice none 0 0] 26 (0,0)) BKq.out hb);have m4_:=a_a.mk (a_e (g:=gbn) (o:=.cells #[.int .i64 0] 3 (0,0)) BKn.out hb);have m5_:=a_a.mk (a_i HB.out hb);have m6_:=a_a.mk (Kd.b_y ho_ HB.out.size);(try clear BKp);(try clear BKa);(try clear BKb);(try clear BKq);(try clear BKn);(try clear HB);have BKp:=m0_;have BKa:=m1_;have BKb:=m2_;have BKq:=m3_;have BKn:=m4_;have HB:=m5_;have HOns:=m6_;clear m0_ m1_ m2_ m3_ m4_ m5_ m6_ hb ho_;obtain ⟨Ans,cns,ens⟩:=Kd.b_D HOns.out;subst ens)
  | (go_at_call 45;(refine (c_e.does 50 #[.pointer (some ⟨gba,0,none⟩),.pointer (some ⟨gbb,0,none⟩),.pointer (some ⟨gbn,0,none⟩)] EG.out w.heap.size (fun k_ => k_ = gbn) k ad c0 l _ _ [b] _ ?s1 HC.out ?s2 ?s3 HB.out.size ?s4 HE.out HP.out HL.out err l' (fun W_ => W_.heap[gbn]? = some (.cells #[.int .i64 n] 3 (0,0))) ?s5 ?s6).mono ?_);(case s1 => exact Kd.a_8 HR.out HB.out);(case s2 => exact (Kd.a_r HOns.out).2.2);(case s3 => exact (Kd.a_r HOns.out).2.1);(case s4 => exact fun k_ e_ => e_ ▸ a_p BKn.out);(case s5 => exact fun W_ W2_ h1_ h2_ => (h2_ gbn rfl).trans h1_);(case s6 => exact fun W_ gq_ v_ b_ q_ bq_ r_ => b_Y.any k gq_ gba gbb gbn l a b v_ w.heap.size _ W_ err n l' bq_ r_ (a_e BKa.out b_) (a_e BKb.out b_) (a_e BKn.out b_) H0.out H1.out HL.out (fun g_ h_ => by rcases h_ with rfl|rfl|rfl;exact a_p BKa.out;exact a_p BKb.out;exact a_p BKn.out) b_.size GEn.out HB.out.size q_ NBb_n.out NBa_n.out HS.out);rintro e wr ⟨v,rfl,ho_,hbl_,hj_,hk_⟩;rw [← HLL.out] at ho_;clear HOns hcz3_p_0 hfz3_p hcz3_a_0 hfz3_a hcz3_b_0 hfz3_b;have m0_:=a_a.mk ((hk_ gbp (a_p BKp.out) NBp_n.out).trans BKp.out);have m1_:=a_a.mk ((hk_ gba (a_p BKa.out) NBa_n.out).trans BKa.out);have m2_:=a_a.mk ((hk_ gbb (a_p BKb.out) NBb_n.out).trans BKb.out);have m3_:=a_a.mk ((hk_ gbq (a_p BKq.out) NBq_n.out).trans BKq.out);have m4_:=a_a.mk (hj_);have m5_:=a_a.mk (HB.out.trans hbl_);have m6_:=a_a.mk (Kd.b_y ho_ HB.out.size);(try clear BKp);(try clear BKa);(try clear BKb);(try clear BKq);(try clear BKn);(try clear HB);have BKp:=m0_;have BKa:=m1_;have BKb:=m2_;have BKq:=m3_;have BKn:=m4_;have HB:=m5_;have HOv:=m6_;clear m0_ m1_ m2_ m3_ m4_ m5_ m6_ ho_ hbl_ hj_ hk_;obtain ⟨Av,cv,ev⟩:=Kd.b_D HOv.out;subst ev)
  | ((with_reducible refine a_E (N:=10) rfl ?_);refine a_D ?hg (N:=10) ?hd (cs:=#[.slice none 0 0]) (t:=26) ?hr ?_;(case hd => rfl);(case hg => rfl);(case hr => first|(go_simp;done)|(go_simp;rfl));intro gbt hg wbt hbox hb;have m0_:=a_a.mk (a_e (g:=gbp) (o:=.cells #[.slice (some ad) l.length c0] 26 (0,0)) BKp.out hb);have m1_:=a_a.mk (a_e (g:=gba) (o:=.cells #[.int .i64 a] 3 (0,0)) BKa.out hb);have m2_:=a_a.mk (a_e (g:=gbb) (o:=.cells #[.int .i64 b] 3 (0,0)) BKb.out hb);have m3_:=a_a.mk (a_e (g:=gbq) (o:=.cells #[.slice none 0 0] 26 (0,0)) BKq.out hb);have m4_:=a_a.mk (a_e (g:=gbn) (o:=.cells #[.int .i64 n] 3 (0,0)) BKn.out hb);have m5_:=a_a.mk (Kd.a_y HOv.out hb);have m6_:=a_a.mk (a_i HB.out hb);have m7_:=a_a.mk (hbox);have m8_:=a_a.mk ((by rw [hg];exact HB.out.size : w.heap.size ≤ gbt));have m9_:=a_a.mk ((by rw [hg];exact Nat.ne_of_lt (a_p BKp.out) : gbp ≠ gbt));have m10_:=a_a.mk ((by rw [hg];exact Nat.ne_of_gt (a_p BKp.out) : gbt ≠ gbp));have m11_:=a_a.mk ((by rw [hg];exact Nat.ne_of_lt (a_p BKa.out) : gba ≠ gbt));have m12_:=a_a.mk ((by rw [hg];exact Nat.ne_of_gt (a_p BKa.out) : gbt ≠ gba));have m13_:=a_a.mk ((by rw [hg];exact Nat.ne_of_lt (a_p BKb.out) : gbb ≠ gbt));have m14_:=a_a.mk ((by rw [hg];exact Nat.ne_of_gt (a_p BKb.out) : gbt ≠ gbb));have m15_:=a_a.mk ((by rw [hg];exact Nat.ne_of_lt (a_p BKq.out) : gbq ≠ gbt));have m16_:=a_a.mk ((by rw [hg];exact Nat.ne_of_gt (a_p BKq.out) : gbt ≠ gbq));have m17_:=a_a.mk ((by rw [hg];exact Nat.ne_of_lt (a_p BKn.out) : gbn ≠ gbt));have m18_:=a_a.mk ((by rw [hg];exact Nat.ne_of_gt (a_p BKn.out) : gbt ≠ gbn));(try clear BKp);(try clear BKa);(try clear BKb);(try clear BKq);(try clear BKn);(try clear HOv);(try clear HB);have BKp:=m0_;have BKa:=m1_;have BKb:=m2_;have BKq:=m3_;have BKn:=m4_;have HOv:=m5_;have HB:=m6_;have BKt:=m7_;have GEt:=m8_;have NBp_t:=m9_;have NBt_p:=m10_;have NBa_t:=m11_;have NBt_a:=m12_;have NBb_t:=m13_;have NBt_b:=m14_;have NBq_t:=m15_;have NBt_q:=m16_;have NBn_t:=m17_;have NBt_n:=m18_;clear m0_ m1_ m2_ m3_ m4_ m5_ m6_ m7_ m8_ m9_ m10_ m11_ m12_ m13_ m14_ m15_ m16_ m17_ m18_ hb hbox hg;have hcz5_t_0 : World.cell? _ ⟨gbt,0,none⟩ = some (.slice none 0 0):=(a_j BKt.out 0).trans rfl;have hfz5_t:=a_k BKt.out 0)
  | ((with_reducible refine b_J (t:=26) (p:=10) rfl ?_);refine b_E (t:=26) (p:=10) (v:=?vo_ws6) (w1:=(wbt.setCell ⟨gbt,0,none⟩ (.slice Av (L).length cv))) ?hg ?ho ?hn ?hr ?_;(case ho => rfl);(case hg => rfl);(case hn => rfl);(case hr => first|(go_simp;done)|(go_simp;rfl));intro ws6 hw;have m0_:=a_a.mk ((show ws6.heap[gbp]? = some (.cells #[.slice (some ad) l.length c0] 26 (0,0)) by rw [hw];exact a_Q BKp.out (p:=⟨gbt,0,none⟩) NBp_t.out _));have m1_:=a_a.mk ((show ws6.heap[gba]? = some (.cells #[.int .i64 a] 3 (0,0)) by rw [hw];exact a_Q BKa.out (p:=⟨gbt,0,none⟩) NBa_t.out _));have m2_:=a_a.mk ((show ws6.heap[gbb]? = some (.cells #[.int .i64 b] 3 (0,0)) by rw [hw];exact a_Q BKb.out (p:=⟨gbt,0,none⟩) NBb_t.out _));have m3_:=a_a.mk ((show ws6.heap[gbq]? = some (.cells #[.slice none 0 0] 26 (0,0)) by rw [hw];exact a_Q BKq.out (p:=⟨gbt,0,none⟩) NBq_t.out _));have m4_:=a_a.mk ((show ws6.heap[gbn]? = some (.cells #[.int .i64 n] 3 (0,0)) by rw [hw];exact a_Q BKn.out (p:=⟨gbt,0,none⟩) NBn_t.out _));have m5_:=a_a.mk ((show ws6.heap[gbt]? = some (.cells #[.slice Av (L).length cv] 26 (0,0)) by rw [hw];exact b_q (cs:=#[.slice none 0 0]) BKt.out 0 _ rfl));have m6_:=a_a.mk ((show Kd.R (Kd.int .u32) 31 ws6 w.heap.size (fun _ => True) (.slice Av (L).length cv) L by rw [hw];exact Kd.c_J HOv.out BKt.out (by decide) 0 _));have m7_:=a_a.mk ((show Below w.heap.size w ws6 by rw [hw];exact a_c HB.out GEt.out));clear hw BKp BKa BKb BKq BKn BKt HOv HB;have BKp:=m0_;have BKa:=m1_;have BKb:=m2_;have BKq:=m3_;have BKn:=m4_;have BKt:=m5_;have HOv:=m6_;have HB:=m7_;clear m0_ m1_ m2_ m3_ m4_ m5_ m6_ m7_;have hcz7_t_0 : World.cell? _ ⟨gbt,0,none⟩ = some (.slice Av (L).length cv):=(a_j BKt.out 0).trans rfl;have hfz7_t:=a_k BKt.out 0;have hcz7_n_0 : World.cell? _ ⟨gbn,0,none⟩ = some (.int .i64 n):=(a_j BKn.out 0).trans rfl;have hfz7_n:=a_k BKn.out 0;have hcz7_q_0 : World.cell? _ ⟨gbq,0,none⟩ = some (.slice none 0 0):=(a_j BKq.out 0).trans rfl;have hfz7_q:=a_k BKq.out 0;have hne1_:=NBt_q.out;have hne2_:=NBq_t.out;have hne3_:=NBn_q.out;have hne4_:=NBq_n.out))
 go_region
 go_wp2
 refine bodyPost_ret (c_c rfl _ _ gbq 26 #[.slice Av (L).length cv] (0,0) _ rfl (b_q (cs:=#[.slice none 0 0]) (a_t BKq.out) 0 _ rfl) Try.underlying26 rfl (by kernel_rfl)) rfl ?_
 exact ⟨_,rfl,Kd.c_J (Kd.a_0 HOv.out) (a_t BKq.out) (by decide) 0 _,(HB.out.drew).setCell GEq.out _⟩
set_option maxHeartbeats 4000000 in
theorem b_p.bad (k : Nat) (A0 : Option Addr) (c0 : Nat) (l : List Int) (a b : Int) (w : World) (hr : Kd.C (Kd.int .u32) w A0 l.length l) (hc : l.length ≤ c0) (e1 : Int) (hec : a_s.f k l = some e1) (hp : e1 ≠ 0) :
 Calls Try.prog 31 #[.agg #[.slice A0 l.length c0],.int .i64 a,.int .i64 b] w fun e w' => ∃ v0_ : Value,e = .returned (.tuple #[.agg #[v0_],.int .i64 0,.int .i64 e1]) ∧ Kd.R (Kd.int .u32) 31 w' w.heap.size (fun _ => True) v0_ [] ∧ Below w.heap.size w w':=by
 have HR:=a_a.mk hr
 have HC:=a_a.mk hc
 have HE:=a_a.mk hec
 have HP:=a_a.mk hp
 clear hr hc hec hp
 have HB:=a_a.mk (Below.refl w.heap.size w)
 go_enter Try.func31,Try.ntmps31
 go_wp2_with (first
  | ((with_reducible refine a_E (N:=3) rfl ?_);refine a_D ?hg (N:=3) ?hd (cs:=#[.slice A0 l.length c0]) (t:=26) ?hr ?_;(case hd => rfl);(case hg => rfl);(case hr => first|(go_simp;done)|(go_simp;rfl));intro gbp hg wbp hbox hb;have m0_:=a_a.mk (a_i HB.out hb);have m1_:=a_a.mk (hbox);have m2_:=a_a.mk ((by rw [hg];exact HB.out.size : w.heap.size ≤ gbp));(try clear HB);have HB:=m0_;have BKp:=m1_;have GEp:=m2_;clear m0_ m1_ m2_ hb hbox hg)
  | ((with_reducible refine a_E (N:=4) rfl ?_);refine a_D ?hg (N:=4) ?hd (cs:=#[.int .i64 a]) (t:=3) ?hr ?_;(case hd => rfl);(case hg => rfl);(case hr => first|(go_simp;done)|(go_simp;rfl));intro gba hg wba hbox hb;have m0_:=a_a.mk (a_e (g:=gbp) (o:=.cells #[.slice A0 l.length c0] 26 (0,0)) BKp.out hb);have m1_:=a_a.mk (a_i HB.out hb);have m2_:=a_a.mk (hbox);have m3_:=a_a.mk ((by rw [hg];exact HB.out.size : w.heap.size ≤ gba));have m4_:=a_a.mk ((by rw [hg];exact Nat.ne_of_lt (a_p BKp.out) : gbp ≠ gba));have m5_:=a_a.mk ((by rw [hg];exact Nat.ne_of_gt (a_p BKp.out) : gba ≠ gbp));(try clear BKp);(try clear HB);have BKp:=m0_;have HB:=m1_;have BKa:=m2_;have GEa:=m3_;have NBp_a:=m4_;have NBa_p:=m5_;clear m0_ m1_ m2_ m3_ m4_ m5_ hb hbox hg)
  | ((with_reducible refine a_E (N:=5) rfl ?_);refine a_D ?hg (N:=5) ?hd (cs:=#[.int .i64 b]) (t:=3) ?hr ?_;(case hd => rfl);(case hg => rfl);(case hr => first|(go_simp;done)|(go_simp;rfl));intro gbb hg wbb hbox hb;have m0_:=a_a.mk (a_e (g:=gbp) (o:=.cells #[.slice A0 l.length c0] 26 (0,0)) BKp.out hb);have m1_:=a_a.mk (a_e (g:=gba) (o:=.cells #[.int .i64 a] 3 (0,0)) BKa.out hb);have m2_:=a_a.mk (a_i HB.out hb);have m3_:=a_a.mk (hbox);have m4_:=a_a.mk ((by rw [hg];exact HB.out.size : w.heap.size ≤ gbb));have m5_:=a_a.mk ((by rw [hg];exact Nat.ne_of_lt (a_p BKp.out) : gbp ≠ gbb));have m6_:=a_a.mk ((by rw [hg];exact Nat.ne_of_gt (a_p BKp.out) : gbb ≠ gbp));have m7_:=a_a.mk ((by rw [hg];exact Nat.ne_of_lt (a_p BKa.out) : gba ≠ gbb));have m8_:=a_a.mk ((by rw [hg];exact Nat.ne_of_gt (a_p BKa.out) : gbb ≠ gba));(try clear BKp);(try clear BKa);(try clear HB);have BKp:=m0_;have BKa:=m1_;have HB:=m2_;have BKb:=m3_;have GEb:=m4_;have NBp_b:=m5_;have NBb_p:=m6_;have NBa_b:=m7_;have NBb_a:=m8_;clear m0_ m1_ m2_ m3_ m4_ m5_ m6_ m7_ m8_ hb hbox hg)
  | ((with_reducible refine a_E (N:=6) rfl ?_);refine a_D ?hg (N:=6) ?hd (cs:=#[.slice none 0 0]) (t:=26) ?hr ?_;(case hd => rfl);(case hg => rfl);(case hr => first|(go_simp;done)|(go_simp;rfl));intro gbq hg wbq hbox hb;have m0_:=a_a.mk (a_e (g:=gbp) (o:=.cells #[.slice A0 l.length c0] 26 (0,0)) BKp.out hb);have m1_:=a_a.mk (a_e (g:=gba) (o:=.cells #[.int .i64 a] 3 (0,0)) BKa.out hb);have m2_:=a_a.mk (a_e (g:=gbb) (o:=.cells #[.int .i64 b] 3 (0,0)) BKb.out hb);have m3_:=a_a.mk (a_i HB.out hb);have m4_:=a_a.mk (hbox);have m5_:=a_a.mk ((by rw [hg];exact HB.out.size : w.heap.size ≤ gbq));have m6_:=a_a.mk ((by rw [hg];exact Nat.ne_of_lt (a_p BKp.out) : gbp ≠ gbq));have m7_:=a_a.mk ((by rw [hg];exact Nat.ne_of_gt (a_p BKp.out) : gbq ≠ gbp));have m8_:=a_a.mk ((by rw [hg];exact Nat.ne_of_lt (a_p BKa.out) : gba ≠ gbq));have m9_:=a_a.mk ((by rw [hg];exact Nat.ne_of_gt (a_p BKa.out) : gbq ≠ gba));have m10_:=a_a.mk ((by rw [hg];exact Nat.ne_of_lt (a_p BKb.out) : gbb ≠ gbq));have m11_:=a_a.mk ((by rw [hg];exact Nat.ne_of_gt (a_p BKb.out) : gbq ≠ gbb));(try clear BKp);(try clear BKa);(try clear BKb);(try clear HB);have BKp:=m0_;have BKa:=m1_;have BKb:=m2_;have HB:=m3_;have BKq:=m4_;have GEq:=m5_;have NBp_q:=m6_;have NBq_p:=m7_;have NBa_q:=m8_;have NBq_a:=m9_;have NBb_q:=m10_;have NBq_b:=m11_;clear m0_ m1_ m2_ m3_ m4_ m5_ m6_ m7_ m8_ m9_ m10_ m11_ hb hbox hg)
  | ((with_reducible refine a_E (N:=9) rfl ?_);refine a_D ?hg (N:=9) ?hd (cs:=#[.int .i64 0]) (t:=3) ?hr ?_;(case hd => rfl);(case hg => rfl);(case hr => first|(go_simp;done)|(go_simp;rfl));intro gbn hg wbn hbox hb;have m0_:=a_a.mk (a_e (g:=gbp) (o:=.cells #[.slice A0 l.length c0] 26 (0,0)) BKp.out hb);have m1_:=a_a.mk (a_e (g:=gba) (o:=.cells #[.int .i64 a] 3 (0,0)) BKa.out hb);have m2_:=a_a.mk (a_e (g:=gbb) (o:=.cells #[.int .i64 b] 3 (0,0)) BKb.out hb);have m3_:=a_a.mk (a_e (g:=gbq) (o:=.cells #[.slice none 0 0] 26 (0,0)) BKq.out hb);have m4_:=a_a.mk (a_i HB.out hb);have m5_:=a_a.mk (hbox);have m6_:=a_a.mk ((by rw [hg];exact HB.out.size : w.heap.size ≤ gbn));have m7_:=a_a.mk ((by rw [hg];exact Nat.ne_of_lt (a_p BKp.out) : gbp ≠ gbn));have m8_:=a_a.mk ((by rw [hg];exact Nat.ne_of_gt (a_p BKp.out) : gbn ≠ gbp));have m9_:=a_a.mk ((by rw [hg];exact Nat.ne_of_lt (a_p BKa.out) : gba ≠ gbn));have m10_:=a_a.mk ((by rw [hg];exact Nat.ne_of_gt (a_p BKa.out) : gbn ≠ gba));have m11_:=a_a.mk ((by rw [hg];exact Nat.ne_of_lt (a_p BKb.out) : gbb ≠ gbn));have m12_:=a_a.mk ((by rw [hg];exact Nat.ne_of_gt (a_p BKb.out) : gbn ≠ gbb));have m13_:=a_a.mk ((by rw [hg];exact Nat.ne_of_lt (a_p BKq.out) : gbq ≠ gbn));have m14_:=a_a.mk ((by rw [hg];exact Nat.ne_of_gt (a_p BKq.out) : gbn ≠ gbq));(try clear BKp);(try clear BKa);(try clear BKb);(try clear BKq);(try clear HB);have BKp:=m0_;have BKa:=m1_;have BKb:=m2_;have BKq:=m3_;have HB:=m4_;have BKn:=m5_;have GEn:=m6_;have NBp_n:=m7_;have NBn_p:=m8_;have NBa_n:=m9_;have NBn_a:=m10_;have NBb_n:=m11_;have NBn_b:=m12_;have NBq_n:=m13_;have NBn_q:=m14_;clear m0_ m1_ m2_ m3_ m4_ m5_ m6_ m7_ m8_ m9_ m10_ m11_ m12_ m13_ m14_ hb hbox hg;have hcz1_n_0 : World.cell? _ ⟨gbn,0,none⟩ = some (.int .i64 0):=(a_j BKn.out 0).trans rfl;have hfz1_n:=a_k BKn.out 0)
  | ((with_reducible refine b_J (t:=3) (p:=9) rfl ?_);refine b_E (t:=3) (p:=9) (v:=?vo_ws2) (w1:=(wbn.setCell ⟨gbn,0,none⟩ (.int .i64 0))) ?hg ?ho ?hn ?hr ?_;(case ho => rfl);(case hg => rfl);(case hn => rfl);(case hr => first|(go_simp;done)|(go_simp;rfl));intro ws2 hw;have m0_:=a_a.mk ((show ws2.heap[gbp]? = some (.cells #[.slice A0 l.length c0] 26 (0,0)) by rw [hw];exact a_Q BKp.out (p:=⟨gbn,0,none⟩) NBp_n.out _));have m1_:=a_a.mk ((show ws2.heap[gba]? = some (.cells #[.int .i64 a] 3 (0,0)) by rw [hw];exact a_Q BKa.out (p:=⟨gbn,0,none⟩) NBa_n.out _));have m2_:=a_a.mk ((show ws2.heap[gbb]? = some (.cells #[.int .i64 b] 3 (0,0)) by rw [hw];exact a_Q BKb.out (p:=⟨gbn,0,none⟩) NBb_n.out _));have m3_:=a_a.mk ((show ws2.heap[gbq]? = some (.cells #[.slice none 0 0] 26 (0,0)) by rw [hw];exact a_Q BKq.out (p:=⟨gbn,0,none⟩) NBq_n.out _));have m4_:=a_a.mk ((show ws2.heap[gbn]? = some (.cells #[.int .i64 0] 3 (0,0)) by rw [hw];exact b_q (cs:=#[.int .i64 0]) BKn.out 0 _ rfl));have m5_:=a_a.mk ((show Below w.heap.size w ws2 by rw [hw];exact a_c HB.out GEn.out));clear hw BKp BKa BKb BKq BKn HB;have BKp:=m0_;have BKa:=m1_;have BKb:=m2_;have BKq:=m3_;have BKn:=m4_;have HB:=m5_;clear m0_ m1_ m2_ m3_ m4_ m5_;have hcz3_p_0 : World.cell? _ ⟨gbp,0,none⟩ = some (.slice A0 l.length c0):=(a_j BKp.out 0).trans rfl;have hfz3_p:=a_k BKp.out 0;have hcz3_a_0 : World.cell? _ ⟨gba,0,none⟩ = some (.int .i64 a):=(a_j BKa.out 0).trans rfl;have hfz3_a:=a_k BKa.out 0;have hcz3_b_0 : World.cell? _ ⟨gbb,0,none⟩ = some (.int .i64 b):=(a_j BKb.out 0).trans rfl;have hfz3_b:=a_k BKb.out 0)
  | ((with_reducible refine a_E (N:=16) rfl ?_);refine Kd.d_N (Kd.int .i64) _ 3 ?hg (N:=16) ?hd (xs:=([b] : List Int)) (inner:=[.int .i64 b]) (ok:=fun _ => True) (okp:=fun _ => True) ?hr ?hp (fun _ hk => hk) trivial (Below.refl _ _) (Nat.le_refl _) (by simp) ?_;(case hd => rfl);(case hg => rfl);(case hr => first|(go_simp;done)|(go_simp;rfl));(case hp => exact (Reps.one (show Kd.M (Kd.int .i64) _ _ _ b [.int .i64 b] from rfl) (Reps.none _ _)));intro vns wl4 ho_ hb hg_ hnew_;clear hg_ hnew_;have m0_:=a_a.mk (a_e (g:=gbp) (o:=.cells #[.slice A0 l.length c0] 26 (0,0)) BKp.out hb);have m1_:=a_a.mk (a_e (g:=gba) (o:=.cells #[.int .i64 a] 3 (0,0)) BKa.out hb);have m2_:=a_a.mk (a_e (g:=gbb) (o:=.cells #[.int .i64 b] 3 (0,0)) BKb.out hb);have m3_:=a_a.mk (a_e (g:=gbq) (o:=.cells #[.slice none 0 0] 26 (0,0)) BKq.out hb);have m4_:=a_a.mk (a_e (g:=gbn) (o:=.cells #[.int .i64 0] 3 (0,0)) BKn.out hb);have m5_:=a_a.mk (a_i HB.out hb);have m6_:=a_a.mk (Kd.b_y ho_ HB.out.size);(try clear BKp);(try clear BKa);(try clear BKb);(try clear BKq);(try clear BKn);(try clear HB);have BKp:=m0_;have BKa:=m1_;have BKb:=m2_;have BKq:=m3_;have BKn:=m4_;have HB:=m5_;have HOns:=m6_;clear m0_ m1_ m2_ m3_ m4_ m5_ m6_ hb ho_;obtain ⟨Ans,cns,ens⟩:=Kd.b_D HOns.out;subst ens)
  | (go_at_call 45;(refine (c_e.bad 50 #[.pointer (some ⟨gba,0,none⟩),.pointer (some ⟨gbb,0,none⟩),.pointer (some ⟨gbn,0,none⟩)] k A0 c0 l _ _ [b] _ ?s1 HC.out ?s2 ?s3 e1 HE.out HP.out).mono ?_);(case s1 => exact Kd.a_8 HR.out HB.out);(case s2 => exact (Kd.a_r HOns.out).2.2);(case s3 => exact (Kd.a_r HOns.out).2.1);rintro e wr ⟨rfl,hb⟩;clear HOns hcz3_p_0 hfz3_p hcz3_a_0 hfz3_a hcz3_b_0 hfz3_b;have m0_:=a_a.mk (a_e (g:=gbp) (o:=.cells #[.slice A0 l.length c0] 26 (0,0)) BKp.out hb);have m1_:=a_a.mk (a_e (g:=gba) (o:=.cells #[.int .i64 a] 3 (0,0)) BKa.out hb);have m2_:=a_a.mk (a_e (g:=gbb) (o:=.cells #[.int .i64 b] 3 (0,0)) BKb.out hb);have m3_:=a_a.mk (a_e (g:=gbq) (o:=.cells #[.slice none 0 0] 26 (0,0)) BKq.out hb);have m4_:=a_a.mk (a_e (g:=gbn) (o:=.cells #[.int .i64 0] 3 (0,0)) BKn.out hb);have m5_:=a_a.mk (a_i HB.out hb);(try clear BKp);(try clear BKa);(try clear BKb);(try clear BKq);(try clear BKn);(try clear HB);have BKp:=m0_;have BKa:=m1_;have BKb:=m2_;have BKq:=m3_;have BKn:=m4_;have HB:=m5_;clear m0_ m1_ m2_ m3_ m4_ m5_ hb;have HOv:=a_a.mk (Kd.d_L (Kd.int .u32) 31 wr w.heap.size (fun _ => True)))
  | ((with_reducible refine a_E (N:=10) rfl ?_);refine a_D ?hg (N:=10) ?hd (cs:=#[.slice none 0 0]) (t:=26) ?hr ?_;(case hd => rfl);(case hg => rfl);(case hr => first|(go_simp;done)|(go_simp;rfl));intro gbt hg wbt hbox hb;have m0_:=a_a.mk (a_e (g:=gbp) (o:=.cells #[.slice A0 l.length c0] 26 (0,0)) BKp.out hb);have m1_:=a_a.mk (a_e (g:=gba) (o:=.cells #[.int .i64 a] 3 (0,0)) BKa.out hb);have m2_:=a_a.mk (a_e (g:=gbb) (o:=.cells #[.int .i64 b] 3 (0,0)) BKb.out hb);have m3_:=a_a.mk (a_e (g:=gbq) (o:=.cells #[.slice none 0 0] 26 (0,0)) BKq.out hb);have m4_:=a_a.mk (a_e (g:=gbn) (o:=.cells #[.int .i64 0] 3 (0,0)) BKn.out hb);have m5_:=a_a.mk (Kd.a_y HOv.out hb);have m6_:=a_a.mk (a_i HB.out hb);have m7_:=a_a.mk (hbox);have m8_:=a_a.mk ((by rw [hg];exact HB.out.size : w.heap.size ≤ gbt));have m9_:=a_a.mk ((by rw [hg];exact Nat.ne_of_lt (a_p BKp.out) : gbp ≠ gbt));have m10_:=a_a.mk ((by rw [hg];exact Nat.ne_of_gt (a_p BKp.out) : gbt ≠ gbp));have m11_:=a_a.mk ((by rw [hg];exact Nat.ne_of_lt (a_p BKa.out) : gba ≠ gbt));have m12_:=a_a.mk ((by rw [hg];exact Nat.ne_of_gt (a_p BKa.out) : gbt ≠ gba));have m13_:=a_a.mk ((by rw [hg];exact Nat.ne_of_lt (a_p BKb.out) : gbb ≠ gbt));have m14_:=a_a.mk ((by rw [hg];exact Nat.ne_of_gt (a_p BKb.out) : gbt ≠ gbb));have m15_:=a_a.mk ((by rw [hg];exact Nat.ne_of_lt (a_p BKq.out) : gbq ≠ gbt));have m16_:=a_a.mk ((by rw [hg];exact Nat.ne_of_gt (a_p BKq.out) : gbt ≠ gbq));have m17_:=a_a.mk ((by rw [hg];exact Nat.ne_of_lt (a_p BKn.out) : gbn ≠ gbt));have m18_:=a_a.mk ((by rw [hg];exact Nat.ne_of_gt (a_p BKn.out) : gbt ≠ gbn));(try clear BKp);(try clear BKa);(try clear BKb);(try clear BKq);(try clear BKn);(try clear HOv);(try clear HB);have BKp:=m0_;have BKa:=m1_;have BKb:=m2_;have BKq:=m3_;have BKn:=m4_;have HOv:=m5_;have HB:=m6_;have BKt:=m7_;have GEt:=m8_;have NBp_t:=m9_;have NBt_p:=m10_;have NBa_t:=m11_;have NBt_a:=m12_;have NBb_t:=m13_;have NBt_b:=m14_;have NBq_t:=m15_;have NBt_q:=m16_;have NBn_t:=m17_;have NBt_n:=m18_;clear m0_ m1_ m2_ m3_ m4_ m5_ m6_ m7_ m8_ m9_ m10_ m11_ m12_ m13_ m14_ m15_ m16_ m17_ m18_ hb hbox hg;have hcz5_t_0 : World.cell? _ ⟨gbt,0,none⟩ = some (.slice none 0 0):=(a_j BKt.out 0).trans rfl;have hfz5_t:=a_k BKt.out 0)
  | ((with_reducible refine b_J (t:=26) (p:=10) rfl ?_);refine b_E (t:=26) (p:=10) (v:=?vo_ws6) (w1:=(wbt.setCell ⟨gbt,0,none⟩ (.slice none 0 0))) ?hg ?ho ?hn ?hr ?_;(case ho => rfl);(case hg => rfl);(case hn => rfl);(case hr => first|(go_simp;done)|(go_simp;rfl));intro ws6 hw;have m0_:=a_a.mk ((show ws6.heap[gbp]? = some (.cells #[.slice A0 l.length c0] 26 (0,0)) by rw [hw];exact a_Q BKp.out (p:=⟨gbt,0,none⟩) NBp_t.out _));have m1_:=a_a.mk ((show ws6.heap[gba]? = some (.cells #[.int .i64 a] 3 (0,0)) by rw [hw];exact a_Q BKa.out (p:=⟨gbt,0,none⟩) NBa_t.out _));have m2_:=a_a.mk ((show ws6.heap[gbb]? = some (.cells #[.int .i64 b] 3 (0,0)) by rw [hw];exact a_Q BKb.out (p:=⟨gbt,0,none⟩) NBb_t.out _));have m3_:=a_a.mk ((show ws6.heap[gbq]? = some (.cells #[.slice none 0 0] 26 (0,0)) by rw [hw];exact a_Q BKq.out (p:=⟨gbt,0,none⟩) NBq_t.out _));have m4_:=a_a.mk ((show ws6.heap[gbn]? = some (.cells #[.int .i64 0] 3 (0,0)) by rw [hw];exact a_Q BKn.out (p:=⟨gbt,0,none⟩) NBn_t.out _));have m5_:=a_a.mk ((show ws6.heap[gbt]? = some (.cells #[.slice none 0 0] 26 (0,0)) by rw [hw];exact b_q (cs:=#[.slice none 0 0]) BKt.out 0 _ rfl));have m6_:=a_a.mk ((show Kd.R (Kd.int .u32) 31 ws6 w.heap.size (fun _ => True) (.slice none 0 0) [] by rw [hw];exact Kd.c_J HOv.out BKt.out (by decide) 0 _));have m7_:=a_a.mk ((show Below w.heap.size w ws6 by rw [hw];exact a_c HB.out GEt.out));clear hw BKp BKa BKb BKq BKn BKt HOv HB;have BKp:=m0_;have BKa:=m1_;have BKb:=m2_;have BKq:=m3_;have BKn:=m4_;have BKt:=m5_;have HOv:=m6_;have HB:=m7_;clear m0_ m1_ m2_ m3_ m4_ m5_ m6_ m7_;have hcz7_t_0 : World.cell? _ ⟨gbt,0,none⟩ = some (.slice none 0 0):=(a_j BKt.out 0).trans rfl;have hfz7_t:=a_k BKt.out 0;have hcz7_n_0 : World.cell? _ ⟨gbn,0,none⟩ = some (.int .i64 0):=(a_j BKn.out 0).trans rfl;have hfz7_n:=a_k BKn.out 0;have hcz7_q_0 : World.cell? _ ⟨gbq,0,none⟩ = some (.slice none 0 0):=(a_j BKq.out 0).trans rfl;have hfz7_q:=a_k BKq.out 0;have hne1_:=NBt_q.out;have hne2_:=NBq_t.out;have hne3_:=NBn_q.out;have hne4_:=NBq_n.out))
 go_region
 go_wp2
 refine bodyPost_ret (c_c rfl _ _ gbq 26 #[.slice none 0 0] (0,0) _ rfl (b_q (cs:=#[.slice none 0 0]) (a_t BKq.out) 0 _ rfl) Try.underlying26 rfl (by kernel_rfl)) rfl ?_
 exact ⟨_,rfl,Kd.c_J (Kd.a_0 HOv.out) (a_t BKq.out) (by decide) 0 _,(HB.out.drew).setCell GEq.out _⟩
set_option maxHeartbeats 4000000 in
theorem b_p.lacks (k : Nat) (A0 : Option Addr) (c0 : Nat) (l : List Int) (a b : Int) (w : World) (hr : Kd.C (Kd.int .u32) w A0 l.length l) (hc : l.length ≤ c0) (hec : a_s.f k l = some 0) (hp : b_l.f l [b] = some false) :
 Calls Try.prog 31 #[.agg #[.slice A0 l.length c0],.int .i64 a,.int .i64 b] w fun e w' => ∃ v0_ : Value,e = .returned (.tuple #[.agg #[v0_],.int .i64 0,.int .i64 4]) ∧ Kd.R (Kd.int .u32) 31 w' w.heap.size (fun _ => True) v0_ [] ∧ Below w.heap.size w w':=by
 have HR:=a_a.mk hr
 have HC:=a_a.mk hc
 have HE:=a_a.mk hec
 have HP:=a_a.mk hp
 clear hr hc hec hp
 have HB:=a_a.mk (Below.refl w.heap.size w)
 go_enter Try.func31,Try.ntmps31
 go_wp2_with (first
  | ((with_reducible refine a_E (N:=3) rfl ?_);refine a_D ?hg (N:=3) ?hd (cs:=#[.slice A0 l.length c0]) (t:=26) ?hr ?_;(case hd => rfl);(case hg => rfl);(case hr => first|(go_simp;done)|(go_simp;rfl));intro gbp hg wbp hbox hb;have m0_:=a_a.mk (a_i HB.out hb);have m1_:=a_a.mk (hbox);have m2_:=a_a.mk ((by rw [hg];exact HB.out.size : w.heap.size ≤ gbp));(try clear HB);have HB:=m0_;have BKp:=m1_;have GEp:=m2_;clear m0_ m1_ m2_ hb hbox hg)
  | ((with_reducible refine a_E (N:=4) rfl ?_);refine a_D ?hg (N:=4) ?hd (cs:=#[.int .i64 a]) (t:=3) ?hr ?_;(case hd => rfl);(case hg => rfl);(case hr => first|(go_simp;done)|(go_simp;rfl));intro gba hg wba hbox hb;have m0_:=a_a.mk (a_e (g:=gbp) (o:=.cells #[.slice A0 l.length c0] 26 (0,0)) BKp.out hb);have m1_:=a_a.mk (a_i HB.out hb);have m2_:=a_a.mk (hbox);have m3_:=a_a.mk ((by rw [hg];exact HB.out.size : w.heap.size ≤ gba));have m4_:=a_a.mk ((by rw [hg];exact Nat.ne_of_lt (a_p BKp.out) : gbp ≠ gba));have m5_:=a_a.mk ((by rw [hg];exact Nat.ne_of_gt (a_p BKp.out) : gba ≠ gbp));(try clear BKp);(try clear HB);have BKp:=m0_;have HB:=m1_;have BKa:=m2_;have GEa:=m3_;have NBp_a:=m4_;have NBa_p:=m5_;clear m0_ m1_ m2_ m3_ m4_ m5_ hb hbox hg)
  | ((with_reducible refine a_E (N:=5) rfl ?_);refine a_D ?hg (N:=5) ?hd (cs:=#[.int .i64 b]) (t:=3) ?hr ?_;(case hd => rfl);(case hg => rfl);(case hr => first|(go_simp;done)|(go_simp;rfl));intro gbb hg wbb hbox hb;have m0_:=a_a.mk (a_e (g:=gbp) (o:=.cells #[.slice A0 l.length c0] 26 (0,0)) BKp.out hb);have m1_:=a_a.mk (a_e (g:=gba) (o:=.cells #[.int .i64 a] 3 (0,0)) BKa.out hb);have m2_:=a_a.mk (a_i HB.out hb);have m3_:=a_a.mk (hbox);have m4_:=a_a.mk ((by rw [hg];exact HB.out.size : w.heap.size ≤ gbb));have m5_:=a_a.mk ((by rw [hg];exact Nat.ne_of_lt (a_p BKp.out) : gbp ≠ gbb));have m6_:=a_a.mk ((by rw [hg];exact Nat.ne_of_gt (a_p BKp.out) : gbb ≠ gbp));have m7_:=a_a.mk ((by rw [hg];exact Nat.ne_of_lt (a_p BKa.out) : gba ≠ gbb));have m8_:=a_a.mk ((by rw [hg];exact Nat.ne_of_gt (a_p BKa.out) : gbb ≠ gba));(try clear BKp);(try clear BKa);(try clear HB);have BKp:=m0_;have BKa:=m1_;have HB:=m2_;have BKb:=m3_;have GEb:=m4_;have NBp_b:=m5_;have NBb_p:=m6_;have NBa_b:=m7_;have NBb_a:=m8_;clear m0_ m1_ m2_ m3_ m4_ m5_ m6_ m7_ m8_ hb hbox hg)
  | ((with_reducible refine a_E (N:=6) rfl ?_);refine a_D ?hg (N:=6) ?hd (cs:=#[.slice none 0 0]) (t:=26) ?hr ?_;(case hd => rfl);(case hg => rfl);(case hr => first|(go_simp;done)|(go_simp;rfl));intro gbq hg wbq hbox hb;have m0_:=a_a.mk (a_e (g:=gbp) (o:=.cells #[.slice A0 l.length c0] 26 (0,0)) BKp.out hb);have m1_:=a_a.mk (a_e (g:=gba) (o:=.cells #[.int .i64 a] 3 (0,0)) BKa.out hb);have m2_:=a_a.mk (a_e (g:=gbb) (o:=.cells #[.int .i64 b] 3 (0,0)) BKb.out hb);have m3_:=a_a.mk (a_i HB.out hb);have m4_:=a_a.mk (hbox);have m5_:=a_a.mk ((by rw [hg];exact HB.out.size : w.heap.size ≤ gbq));have m6_:=a_a.mk ((by rw [hg];exact Nat.ne_of_lt (a_p BKp.out) : gbp ≠ gbq));have m7_:=a_a.mk ((by rw [hg];exact Nat.ne_of_gt (a_p BKp.out) : gbq ≠ gbp));have m8_:=a_a.mk ((by rw [hg];exact Nat.ne_of_lt (a_p BKa.out) : gba ≠ gbq));have m9_:=a_a.mk ((by rw [hg];exact Nat.ne_of_gt (a_p BKa.out) : gbq ≠ gba));have m10_:=a_a.mk ((by rw [hg];exact Nat.ne_of_lt (a_p BKb.out) : gbb ≠ gbq));have m11_:=a_a.mk ((by rw [hg];exact Nat.ne_of_gt (a_p BKb.out) : gbq ≠ gbb));(try clear BKp);(try clear BKa);(try clear BKb);(try clear HB);have BKp:=m0_;have BKa:=m1_;have BKb:=m2_;have HB:=m3_;have BKq:=m4_;have GEq:=m5_;have NBp_q:=m6_;have NBq_p:=m7_;have NBa_q:=m8_;have NBq_a:=m9_;have NBb_q:=m10_;have NBq_b:=m11_;clear m0_ m1_ m2_ m3_ m4_ m5_ m6_ m7_ m8_ m9_ m10_ m11_ hb hbox hg)
  | ((with_reducible refine a_E (N:=9) rfl ?_);refine a_D ?hg (N:=9) ?hd (cs:=#[.int .i64 0]) (t:=3) ?hr ?_;(case hd => rfl);(case hg => rfl);(case hr => first|(go_simp;done)|(go_simp;rfl));intro gbn hg wbn hbox hb;have m0_:=a_a.mk (a_e (g:=gbp) (o:=.cells #[.slice A0 l.length c0] 26 (0,0)) BKp.out hb);have m1_:=a_a.mk (a_e (g:=gba) (o:=.cells #[.int .i64 a] 3 (0,0)) BKa.out hb);have m2_:=a_a.mk (a_e (g:=gbb) (o:=.cells #[.int .i64 b] 3 (0,0)) BKb.out hb);have m3_:=a_a.mk (a_e (g:=gbq) (o:=.cells #[.slice none 0 0] 26 (0,0)) BKq.out hb);have m4_:=a_a.mk (a_i HB.out hb);have m5_:=a_a.mk (hbox);have m6_:=a_a.mk ((by rw [hg];exact HB.out.size : w.heap.size ≤ gbn));have m7_:=a_a.mk ((by rw [hg];exact Nat.ne_of_lt (a_p BKp.out) : gbp ≠ gbn));have m8_:=a_a.mk ((by rw [hg];exact Nat.ne_of_gt (a_p BKp.out) : gbn ≠ gbp));have m9_:=a_a.mk ((by rw [hg];exact Nat.ne_of_lt (a_p BKa.out) : gba ≠ gbn));have m10_:=a_a.mk ((by rw [hg];exact Nat.ne_of_gt (a_p BKa.out) : gbn ≠ gba));have m11_:=a_a.mk ((by rw [hg];exact Nat.ne_of_lt (a_p BKb.out) : gbb ≠ gbn));have m12_:=a_a.mk ((by rw [hg];exact Nat.ne_of_gt (a_p BKb.out) : gbn ≠ gbb));have m13_:=a_a.mk ((by rw [hg];exact Nat.ne_of_lt (a_p BKq.out) : gbq ≠ gbn));have m14_:=a_a.mk ((by rw [hg];exact Nat.ne_of_gt (a_p BKq.out) : gbn ≠ gbq));(try clear BKp);(try clear BKa);(try clear BKb);(try clear BKq);(try clear HB);have BKp:=m0_;have BKa:=m1_;have BKb:=m2_;have BKq:=m3_;have HB:=m4_;have BKn:=m5_;have GEn:=m6_;have NBp_n:=m7_;have NBn_p:=m8_;have NBa_n:=m9_;have NBn_a:=m10_;have NBb_n:=m11_;have NBn_b:=m12_;have NBq_n:=m13_;have NBn_q:=m14_;clear m0_ m1_ m2_ m3_ m4_ m5_ m6_ m7_ m8_ m9_ m10_ m11_ m12_ m13_ m14_ hb hbox hg;have hcz1_n_0 : World.cell? _ ⟨gbn,0,none⟩ = some (.int .i64 0):=(a_j BKn.out 0).trans rfl;have hfz1_n:=a_k BKn.out 0)
  | ((with_reducible refine b_J (t:=3) (p:=9) rfl ?_);refine b_E (t:=3) (p:=9) (v:=?vo_ws2) (w1:=(wbn.setCell ⟨gbn,0,none⟩ (.int .i64 0))) ?hg ?ho ?hn ?hr ?_;(case ho => rfl);(case hg => rfl);(case hn => rfl);(case hr => first|(go_simp;done)|(go_simp;rfl));intro ws2 hw;have m0_:=a_a.mk ((show ws2.heap[gbp]? = some (.cells #[.slice A0 l.length c0] 26 (0,0)) by rw [hw];exact a_Q BKp.out (p:=⟨gbn,0,none⟩) NBp_n.out _));have m1_:=a_a.mk ((show ws2.heap[gba]? = some (.cells #[.int .i64 a] 3 (0,0)) by rw [hw];exact a_Q BKa.out (p:=⟨gbn,0,none⟩) NBa_n.out _));have m2_:=a_a.mk ((show ws2.heap[gbb]? = some (.cells #[.int .i64 b] 3 (0,0)) by rw [hw];exact a_Q BKb.out (p:=⟨gbn,0,none⟩) NBb_n.out _));have m3_:=a_a.mk ((show ws2.heap[gbq]? = some (.cells #[.slice none 0 0] 26 (0,0)) by rw [hw];exact a_Q BKq.out (p:=⟨gbn,0,none⟩) NBq_n.out _));have m4_:=a_a.mk ((show ws2.heap[gbn]? = some (.cells #[.int .i64 0] 3 (0,0)) by rw [hw];exact b_q (cs:=#[.int .i64 0]) BKn.out 0 _ rfl));have m5_:=a_a.mk ((show Below w.heap.size w ws2 by rw [hw];exact a_c HB.out GEn.out));clear hw BKp BKa BKb BKq BKn HB;have BKp:=m0_;have BKa:=m1_;have BKb:=m2_;have BKq:=m3_;have BKn:=m4_;have HB:=m5_;clear m0_ m1_ m2_ m3_ m4_ m5_;have hcz3_p_0 : World.cell? _ ⟨gbp,0,none⟩ = some (.slice A0 l.length c0):=(a_j BKp.out 0).trans rfl;have hfz3_p:=a_k BKp.out 0;have hcz3_a_0 : World.cell? _ ⟨gba,0,none⟩ = some (.int .i64 a):=(a_j BKa.out 0).trans rfl;have hfz3_a:=a_k BKa.out 0;have hcz3_b_0 : World.cell? _ ⟨gbb,0,none⟩ = some (.int .i64 b):=(a_j BKb.out 0).trans rfl;have hfz3_b:=a_k BKb.out 0)
  | ((with_reducible refine a_E (N:=16) rfl ?_);refine Kd.d_N (Kd.int .i64) _ 3 ?hg (N:=16) ?hd (xs:=([b] : List Int)) (inner:=[.int .i64 b]) (ok:=fun _ => True) (okp:=fun _ => True) ?hr ?hp (fun _ hk => hk) trivial (Below.refl _ _) (Nat.le_refl _) (by simp) ?_;(case hd => rfl);(case hg => rfl);(case hr => first|(go_simp;done)|(go_simp;rfl));(case hp => exact (Reps.one (show Kd.M (Kd.int .i64) _ _ _ b [.int .i64 b] from rfl) (Reps.none _ _)));intro vns wl4 ho_ hb hg_ hnew_;clear hg_ hnew_;have m0_:=a_a.mk (a_e (g:=gbp) (o:=.cells #[.slice A0 l.length c0] 26 (0,0)) BKp.out hb);have m1_:=a_a.mk (a_e (g:=gba) (o:=.cells #[.int .i64 a] 3 (0,0)) BKa.out hb);have m2_:=a_a.mk (a_e (g:=gbb) (o:=.cells #[.int .i64 b] 3 (0,0)) BKb.out hb);have m3_:=a_a.mk (a_e (g:=gbq) (o:=.cells #[.slice none 0 0] 26 (0,0)) BKq.out hb);have m4_:=a_a.mk (a_e (g:=gbn) (o:=.cells #[.int .i64 0] 3 (0,0)) BKn.out hb);have m5_:=a_a.mk (a_i HB.out hb);have m6_:=a_a.mk (Kd.b_y ho_ HB.out.size);(try clear BKp);(try clear BKa);(try clear BKb);(try clear BKq);(try clear BKn);(try clear HB);have BKp:=m0_;have BKa:=m1_;have BKb:=m2_;have BKq:=m3_;have BKn:=m4_;have HB:=m5_;have HOns:=m6_;clear m0_ m1_ m2_ m3_ m4_ m5_ m6_ hb ho_;obtain ⟨Ans,cns,ens⟩:=Kd.b_D HOns.out;subst ens)
  | (go_at_call 45;(refine (c_e.lacks 50 #[.pointer (some ⟨gba,0,none⟩),.pointer (some ⟨gbb,0,none⟩),.pointer (some ⟨gbn,0,none⟩)] k A0 c0 l _ _ [b] _ ?s1 HC.out ?s2 ?s3 HE.out HP.out).mono ?_);(case s1 => exact Kd.a_8 HR.out HB.out);(case s2 => exact (Kd.a_r HOns.out).2.2);(case s3 => exact (Kd.a_r HOns.out).2.1);rintro e wr ⟨rfl,hb⟩;clear HOns hcz3_p_0 hfz3_p hcz3_a_0 hfz3_a hcz3_b_0 hfz3_b;have m0_:=a_a.mk (a_e (g:=gbp) (o:=.cells #[.slice A0 l.length c0] 26 (0,0)) BKp.out hb);have m1_:=a_a.mk (a_e (g:=gba) (o:=.cells #[.int .i64 a] 3 (0,0)) BKa.out hb);have m2_:=a_a.mk (a_e (g:=gbb) (o:=.cells #[.int .i64 b] 3 (0,0)) BKb.out hb);have m3_:=a_a.mk (a_e (g:=gbq) (o:=.cells #[.slice none 0 0] 26 (0,0)) BKq.out hb);have m4_:=a_a.mk (a_e (g:=gbn) (o:=.cells #[.int .i64 0] 3 (0,0)) BKn.out hb);have m5_:=a_a.mk (a_i HB.out hb);(try clear BKp);(try clear BKa);(try clear BKb);(try clear BKq);(try clear BKn);(try clear HB);have BKp:=m0_;have BKa:=m1_;have BKb:=m2_;have BKq:=m3_;have BKn:=m4_;have HB:=m5_;clear m0_ m1_ m2_ m3_ m4_ m5_ hb;have HOv:=a_a.mk (Kd.d_L (Kd.int .u32) 31 wr w.heap.size (fun _ => True)))
  | ((with_reducible refine a_E (N:=10) rfl ?_);refine a_D ?hg (N:=10) ?hd (cs:=#[.slice none 0 0]) (t:=26) ?hr ?_;(case hd => rfl);(case hg => rfl);(case hr => first|(go_simp;done)|(go_simp;rfl));intro gbt hg wbt hbox hb;have m0_:=a_a.mk (a_e (g:=gbp) (o:=.cells #[.slice A0 l.length c0] 26 (0,0)) BKp.out hb);have m1_:=a_a.mk (a_e (g:=gba) (o:=.cells #[.int .i64 a] 3 (0,0)) BKa.out hb);have m2_:=a_a.mk (a_e (g:=gbb) (o:=.cells #[.int .i64 b] 3 (0,0)) BKb.out hb);have m3_:=a_a.mk (a_e (g:=gbq) (o:=.cells #[.slice none 0 0] 26 (0,0)) BKq.out hb);have m4_:=a_a.mk (a_e (g:=gbn) (o:=.cells #[.int .i64 0] 3 (0,0)) BKn.out hb);have m5_:=a_a.mk (Kd.a_y HOv.out hb);have m6_:=a_a.mk (a_i HB.out hb);have m7_:=a_a.mk (hbox);have m8_:=a_a.mk ((by rw [hg];exact HB.out.size : w.heap.size ≤ gbt));have m9_:=a_a.mk ((by rw [hg];exact Nat.ne_of_lt (a_p BKp.out) : gbp ≠ gbt));have m10_:=a_a.mk ((by rw [hg];exact Nat.ne_of_gt (a_p BKp.out) : gbt ≠ gbp));have m11_:=a_a.mk ((by rw [hg];exact Nat.ne_of_lt (a_p BKa.out) : gba ≠ gbt));have m12_:=a_a.mk ((by rw [hg];exact Nat.ne_of_gt (a_p BKa.out) : gbt ≠ gba));have m13_:=a_a.mk ((by rw [hg];exact Nat.ne_of_lt (a_p BKb.out) : gbb ≠ gbt));have m14_:=a_a.mk ((by rw [hg];exact Nat.ne_of_gt (a_p BKb.out) : gbt ≠ gbb));have m15_:=a_a.mk ((by rw [hg];exact Nat.ne_of_lt (a_p BKq.out) : gbq ≠ gbt));have m16_:=a_a.mk ((by rw [hg];exact Nat.ne_of_gt (a_p BKq.out) : gbt ≠ gbq));have m17_:=a_a.mk ((by rw [hg];exact Nat.ne_of_lt (a_p BKn.out) : gbn ≠ gbt));have m18_:=a_a.mk ((by rw [hg];exact Nat.ne_of_gt (a_p BKn.out) : gbt ≠ gbn));(try clear BKp);(try clear BKa);(try clear BKb);(try clear BKq);(try clear BKn);(try clear HOv);(try clear HB);have BKp:=m0_;have BKa:=m1_;have BKb:=m2_;have BKq:=m3_;have BKn:=m4_;have HOv:=m5_;have HB:=m6_;have BKt:=m7_;have GEt:=m8_;have NBp_t:=m9_;have NBt_p:=m10_;have NBa_t:=m11_;have NBt_a:=m12_;have NBb_t:=m13_;have NBt_b:=m14_;have NBq_t:=m15_;have NBt_q:=m16_;have NBn_t:=m17_;have NBt_n:=m18_;clear m0_ m1_ m2_ m3_ m4_ m5_ m6_ m7_ m8_ m9_ m10_ m11_ m12_ m13_ m14_ m15_ m16_ m17_ m18_ hb hbox hg;have hcz5_t_0 : World.cell? _ ⟨gbt,0,none⟩ = some (.slice none 0 0):=(a_j BKt.out 0).trans rfl;have hfz5_t:=a_k BKt.out 0)
  | ((with_reducible refine b_J (t:=26) (p:=10) rfl ?_);refine b_E (t:=26) (p:=10) (v:=?vo_ws6) (w1:=(wbt.setCell ⟨gbt,0,none⟩ (.slice none 0 0))) ?hg ?ho ?hn ?hr ?_;(case ho => rfl);(case hg => rfl);(case hn => rfl);(case hr => first|(go_simp;done)|(go_simp;rfl));intro ws6 hw;have m0_:=a_a.mk ((show ws6.heap[gbp]? = some (.cells #[.slice A0 l.length c0] 26 (0,0)) by rw [hw];exact a_Q BKp.out (p:=⟨gbt,0,none⟩) NBp_t.out _));have m1_:=a_a.mk ((show ws6.heap[gba]? = some (.cells #[.int .i64 a] 3 (0,0)) by rw [hw];exact a_Q BKa.out (p:=⟨gbt,0,none⟩) NBa_t.out _));have m2_:=a_a.mk ((show ws6.heap[gbb]? = some (.cells #[.int .i64 b] 3 (0,0)) by rw [hw];exact a_Q BKb.out (p:=⟨gbt,0,none⟩) NBb_t.out _));have m3_:=a_a.mk ((show ws6.heap[gbq]? = some (.cells #[.slice none 0 0] 26 (0,0)) by rw [hw];exact a_Q BKq.out (p:=⟨gbt,0,none⟩) NBq_t.out _));have m4_:=a_a.mk ((show ws6.heap[gbn]? = some (.cells #[.int .i64 0] 3 (0,0)) by rw [hw];exact a_Q BKn.out (p:=⟨gbt,0,none⟩) NBn_t.out _));have m5_:=a_a.mk ((show ws6.heap[gbt]? = some (.cells #[.slice none 0 0] 26 (0,0)) by rw [hw];exact b_q (cs:=#[.slice none 0 0]) BKt.out 0 _ rfl));have m6_:=a_a.mk ((show Kd.R (Kd.int .u32) 31 ws6 w.heap.size (fun _ => True) (.slice none 0 0) [] by rw [hw];exact Kd.c_J HOv.out BKt.out (by decide) 0 _));have m7_:=a_a.mk ((show Below w.heap.size w ws6 by rw [hw];exact a_c HB.out GEt.out));clear hw BKp BKa BKb BKq BKn BKt HOv HB;have BKp:=m0_;have BKa:=m1_;have BKb:=m2_;have BKq:=m3_;have BKn:=m4_;have BKt:=m5_;have HOv:=m6_;have HB:=m7_;clear m0_ m1_ m2_ m3_ m4_ m5_ m6_ m7_;have hcz7_t_0 : World.cell? _ ⟨gbt,0,none⟩ = some (.slice none 0 0):=(a_j BKt.out 0).trans rfl;have hfz7_t:=a_k BKt.out 0;have hcz7_n_0 : World.cell? _ ⟨gbn,0,none⟩ = some (.int .i64 0):=(a_j BKn.out 0).trans rfl;have hfz7_n:=a_k BKn.out 0;have hcz7_q_0 : World.cell? _ ⟨gbq,0,none⟩ = some (.slice none 0 0):=(a_j BKq.out 0).trans rfl;have hfz7_q:=a_k BKq.out 0;have hne1_:=NBt_q.out;have hne2_:=NBq_t.out;have hne3_:=NBn_q.out;have hne4_:=NBq_n.out))
 go_region
 go_wp2
 refine bodyPost_ret (c_c rfl _ _ gbq 26 #[.slice none 0 0] (0,0) _ rfl (b_q (cs:=#[.slice none 0 0]) (a_t BKq.out) 0 _ rfl) Try.underlying26 rfl (by kernel_rfl)) rfl ?_
 exact ⟨_,rfl,Kd.c_J (Kd.a_0 HOv.out) (a_t BKq.out) (by decide) 0 _,(HB.out.drew).setCell GEq.out _⟩
def b_p.f (k : Nat) (l0_0 : List Int) (a1 : Int) (a2 : Int) : Option (List Int × Int × Int) :=
 if l0_0.length < 35184372088832 then (a_s.f k l0_0).bind fun e => if e ≠ 0 then some ([],0,e) else (b_l.f l0_0 [a2]).bind fun ok => if ok = false then some ([],0,4) else (e_z k l0_0 a1 a2).bind fun x => some (if x.1 = 0 then x.2.1 else [],x.2.2,x.1) else none
theorem b_p.mono : ∀ a0 a1 a2 k,LeO (b_p.f k a0 a1 a2) (b_p.f (k + 1) a0 a1 a2):=by
 intro a0 a1 a2 k
 unfold b_p.f
 split
 ·refine LeO.bind (a_s.mono a0 k) (fun e => ?_)
  refine LeO.ite (LeO.refl _) (LeO.bind (LeO.refl _) (fun ok => LeO.ite (LeO.refl _) (LeO.bind ?_ (fun _ => LeO.refl _))))
  unfold e_z
  exact LeO.bind (b_k.mono a0 a1 k) (fun _ => LeO.refl _)
 exact LeO.refl _
theorem b_p.calls (k : Nat) (A0_0 : Option Addr) (c0_0 : Nat) (l0_0 : List Int) (a1 : Int) (a2 : Int) (r1 : List Int) (r2 : Int) (r3 : Int) (w : World) (hr0_0 : Kd.C (Kd.int .u32) w A0_0 l0_0.length l0_0) (hc0_0 : l0_0.length ≤ c0_0) (h : b_p.f k l0_0 a1 a2 = some (r1,r2,r3)) :
 Calls Try.prog 31 #[.agg #[.slice A0_0 l0_0.length c0_0],.int .i64 a1,.int .i64 a2] w fun e w' => ∃ v0_ : Value,e = .returned (.tuple #[.agg #[v0_],.int .i64 r2,.int .i64 r3]) ∧ Kd.R (Kd.int .u32) 31 w' w.heap.size (fun _ => True) v0_ r1 ∧ Below w.heap.size w w':=by
 unfold b_p.f at h
 split at h
 case isFalse => cases h
 case isTrue hl =>
 obtain ⟨e,he,h⟩:=Option.bind_eq_some_iff.mp h
 by_cases e0 : e = 0
 case neg =>
  rw [if_pos e0] at h
  injection h with h;injection h with h1 h;injection h with h2 h3
  subst h1 h2 h3
  exact b_p.bad k A0_0 c0_0 l0_0 a1 a2 w hr0_0 hc0_0 e he e0
 subst e0
 rw [if_neg (by simp)] at h
 obtain ⟨ok,hok,h⟩:=Option.bind_eq_some_iff.mp h
 cases ok
 ·rw [if_pos rfl] at h
  injection h with h;injection h with h1 h;injection h with h2 h3
  subst h1 h2 h3
  exact b_p.lacks k A0_0 c0_0 l0_0 a1 a2 w hr0_0 hc0_0 he hok
 rw [if_neg (by simp)] at h
 obtain ⟨⟨err,l',n⟩,hx,h⟩:=Option.bind_eq_some_iff.mp h
 injection h with h;injection h with h1 h;injection h with h2 h3
 subst h2 h3
 obtain ⟨h0,h1'⟩:=b_l.one hok
 obtain ⟨ad,rfl,_⟩:=Kd.b_w hr0_0 a2 h0 h1'
 exact b_p.does k ad c0_0 l0_0 a1 a2 err n l' w hr0_0 hc0_0 hl he hok h0 h1' hx r1 h1.symm
end Go.Proofs.Ytkhbffjfclepfaa.Q
end
section
namespace Go.Proofs.Ytkhbffjfclepfaa.Q
open Go.RowKit Go.Proofs.YtkhbffjfclepfaaW.PrintWords Go.Proofs.YtkhbffjfclepfaaW.PrintLast Go.Proofs.YtkhbffjfclepfaaW.PrintMore
set_option linter.unusedVariables false
set_option linter.unusedSimpArgs false
def a_G.f (k : Nat)  : Option (Bool):=(d_d.f 4).bind fun bt110 => ((b_u.f k bt110.1 0 12).bind fun bt115 => ((b_p.f k bt115.1 2 0).bind fun bt121 => ((b_p.f k bt121.1 3 0).bind fun bt127 => (if bt110.2 = 0 then (if bt115.2.2 = 0 then (if bt121.2.2 = 0 then (if bt127.2.2 = 181 then (if bt115.2.1 = 1 then (if bt121.2.1 = 1 then (if (bt121.1.length : Int) = 2 then (if 0 < (bt121.1.length : Int) then (some ((rd bt121.1 0) == 7)) else (none)) else (some false)) else (some false)) else (some false)) else (some false)) else (some false)) else (some false)) else (some false)))))
theorem a_G.mono : ∀ k,LeO (a_G.f k ) (a_G.f (k + 1) ):=by
 intro  k
 unfold a_G.f
 repeat' first
  | (with_reducible exact b_p.mono _ _ _ _)
  | (with_reducible exact b_u.mono _ _ _ _)
  | (with_reducible exact LeO.refl _)
  | (with_reducible exact LeO.none _)
  | (with_reducible refine LeO.ite ?_ ?_)
  | (with_reducible refine LeO.bind ?_ (fun _ => ?_))
  | exact b_p.mono _ _ _ _
  | exact b_u.mono _ _ _ _
  | exact LeO.none _
  | refine LeO.ite ?_ ?_
  | refine LeO.bind ?_ (fun _ => ?_)
set_option maxHeartbeats 8000000 in
set_option maxRecDepth 100000 in
theorem a_G.calls (k : Nat)  (r : Bool) (w : World) (h : a_G.f k  = some r) :
 Calls Try.prog 9 #[] w fun e w' => e = .returned (.bool r) ∧ Below w.heap.size w w':=by
 have hr : r = true:=Option.some.inj ((d_K (g:=fun k => a_G.f k) a_G.mono (Nat.le_max_left k 200) h).symm.trans (d_K (g:=fun k => a_G.f k) a_G.mono (Nat.le_max_right k 200) (show a_G.f 200 = some true by kernel_rfl)))
 have hu26:=Try.underlying26
 have HB:=a_a.mk (Below.refl w.heap.size w)
 have H : ((d_d.f 4).bind fun bt110 => ((b_u.f k bt110.1 0 12).bind fun bt115 => ((b_p.f k bt115.1 2 0).bind fun bt121 => ((b_p.f k bt121.1 3 0).bind fun bt127 => (if bt110.2 = 0 then (if bt115.2.2 = 0 then (if bt121.2.2 = 0 then (if bt127.2.2 = 181 then (if bt115.2.1 = 1 then (if bt121.2.1 = 1 then (if (bt121.1.length : Int) = 2 then (if 0 < (bt121.1.length : Int) then (some ((rd bt121.1 0) == 7)) else (none)) else (some false)) else (some false)) else (some false)) else (some false)) else (some false)) else (some false)) else (some false)))))) = some r:=h
 clear h
 replace H:=Option.bind_eq_some_iff.mp H
 obtain ⟨⟨t110,t113⟩,A10,H⟩:=H
 replace H : ((b_u.f k t110 0 12).bind fun bt115 => ((b_p.f k bt115.1 2 0).bind fun bt121 => ((b_p.f k bt121.1 3 0).bind fun bt127 => (if t113 = 0 then (if bt115.2.2 = 0 then (if bt121.2.2 = 0 then (if bt127.2.2 = 181 then (if bt115.2.1 = 1 then (if bt121.2.1 = 1 then (if (bt121.1.length : Int) = 2 then (if 0 < (bt121.1.length : Int) then (some ((rd bt121.1 0) == 7)) else (none)) else (some false)) else (some false)) else (some false)) else (some false)) else (some false)) else (some false)) else (some false))))) = some r:=H
 have A1:=a_a.mk A10
 clear A10
 replace H:=Option.bind_eq_some_iff.mp H
 obtain ⟨⟨t115,t118,t119⟩,A20,H⟩:=H
 replace H : ((b_p.f k t115 2 0).bind fun bt121 => ((b_p.f k bt121.1 3 0).bind fun bt127 => (if t113 = 0 then (if t119 = 0 then (if bt121.2.2 = 0 then (if bt127.2.2 = 181 then (if t118 = 1 then (if bt121.2.1 = 1 then (if (bt121.1.length : Int) = 2 then (if 0 < (bt121.1.length : Int) then (some ((rd bt121.1 0) == 7)) else (none)) else (some false)) else (some false)) else (some false)) else (some false)) else (some false)) else (some false)) else (some false)))) = some r:=H
 have A2:=a_a.mk A20
 clear A20
 replace H:=Option.bind_eq_some_iff.mp H
 obtain ⟨⟨t121,t124,t125⟩,A30,H⟩:=H
 replace H : ((b_p.f k t121 3 0).bind fun bt127 => (if t113 = 0 then (if t119 = 0 then (if t125 = 0 then (if bt127.2.2 = 181 then (if t118 = 1 then (if t124 = 1 then (if (t121.length : Int) = 2 then (if 0 < (t121.length : Int) then (some ((rd t121 0) == 7)) else (none)) else (some false)) else (some false)) else (some false)) else (some false)) else (some false)) else (some false)) else (some false))) = some r:=H
 have A3:=a_a.mk A30
 clear A30
 replace H:=Option.bind_eq_some_iff.mp H
 obtain ⟨⟨t127,t130,t131⟩,A40,H⟩:=H
 replace H : (if t113 = 0 then (if t119 = 0 then (if t125 = 0 then (if t131 = 181 then (if t118 = 1 then (if t124 = 1 then (if (t121.length : Int) = 2 then (if 0 < (t121.length : Int) then (some ((rd t121 0) == 7)) else (none)) else (some false)) else (some false)) else (some false)) else (some false)) else (some false)) else (some false)) else (some false)) = some r:=H
 have A4:=a_a.mk A40
 clear A40
 by_cases c5 : t113 = 0
 rotate_left
 ·rw [if_neg c5] at H
  exact absurd ((Option.some.inj H).trans hr) (by decide)
 rw [if_pos c5] at H
 have c5b0 : (t113 == 0) = true:=beq_iff_eq.mpr c5
 have c5b1 : (t113 != 0) = false:=bne_eq_false_iff_eq.mpr c5
 clear c5
 by_cases c6 : t119 = 0
 rotate_left
 ·rw [if_neg c6] at H
  exact absurd ((Option.some.inj H).trans hr) (by decide)
 rw [if_pos c6] at H
 have c6b0 : (t119 == 0) = true:=beq_iff_eq.mpr c6
 have c6b1 : (t119 != 0) = false:=bne_eq_false_iff_eq.mpr c6
 clear c6
 by_cases c7 : t125 = 0
 rotate_left
 ·rw [if_neg c7] at H
  exact absurd ((Option.some.inj H).trans hr) (by decide)
 rw [if_pos c7] at H
 have c7b0 : (t125 == 0) = true:=beq_iff_eq.mpr c7
 have c7b1 : (t125 != 0) = false:=bne_eq_false_iff_eq.mpr c7
 clear c7
 by_cases c8 : t131 = 181
 rotate_left
 ·rw [if_neg c8] at H
  exact absurd ((Option.some.inj H).trans hr) (by decide)
 rw [if_pos c8] at H
 have c8b0 : (t131 == 181) = true:=beq_iff_eq.mpr c8
 have c8b1 : (t131 != 181) = false:=bne_eq_false_iff_eq.mpr c8
 clear c8
 by_cases c9 : t118 = 1
 rotate_left
 ·rw [if_neg c9] at H
  exact absurd ((Option.some.inj H).trans hr) (by decide)
 rw [if_pos c9] at H
 have c9b0 : (t118 == 1) = true:=beq_iff_eq.mpr c9
 have c9b1 : (t118 != 1) = false:=bne_eq_false_iff_eq.mpr c9
 clear c9
 by_cases c10 : t124 = 1
 rotate_left
 ·rw [if_neg c10] at H
  exact absurd ((Option.some.inj H).trans hr) (by decide)
 rw [if_pos c10] at H
 have c10b0 : (t124 == 1) = true:=beq_iff_eq.mpr c10
 have c10b1 : (t124 != 1) = false:=bne_eq_false_iff_eq.mpr c10
 clear c10
 by_cases c11 : (t121.length : Int) = 2
 rotate_left
 ·rw [if_neg c11] at H
  exact absurd ((Option.some.inj H).trans hr) (by decide)
 rw [if_pos c11] at H
 have c11b0 : ((t121.length : Int) == 2) = true:=beq_iff_eq.mpr c11
 have c11b1 : ((t121.length : Int) != 2) = false:=bne_eq_false_iff_eq.mpr c11
 clear c11
 by_cases c12 : 0 < (t121.length : Int)
 rotate_left
 ·rw [if_neg c12] at H
  exact absurd H (by simp)
 rw [if_pos c12] at H
 have c12b0 : decide (0 < (t121.length : Int)) = true:=decide_eq_true c12
 have c12b1 : decide (0 < t121.length) = true:=decide_eq_true (by omega)
 clear c12
 obtain rfl:=Option.some.inj H
 go_enter Try.func9,Try.ntmps9
 go_wp2_with (first|((with_reducible refine a_B (f:=10) rfl ?_);refine b_f (some 13) rfl rfl Try.func10 (by kernel_rfl) rfl #[.int .i64 4] rfl (by (try simp only [List.map_toArray,List.map_cons,List.map_nil]);first|done|rfl|(simp only [List.length_drop,List.length_take];rfl)) ?_;(with_reducible refine (d_d.calls 4 t110 t113 _ A1.out).mono ?_);rintro e w13 ⟨v111,rfl,ho0,hb⟩;refine ⟨_,rfl,?_⟩;have c_A:=a_a.mk (Kd.b_y ho0 (a_m (lup_ HB.out)));replace HB:=a_a.mk (a_i (lup_ HB.out) hb);(try clear hb);(try clear hb2);(try clear hk);(try clear hi);(try clear ho0))|((with_reducible refine a_E (N:=1) rfl ?_);(try (refine b_G (by rfl) ?_;dsimp only));refine a_D ?hg (N:=1) ?hd (cs:=#[.slice none 0 0]) (t:=26) ?hr ?_;(case hd => rfl);(case hg => rfl);(case hr => first|(go_simp;done)|(go_simp;rfl));intro c_4 hg w14 hbox hb;have c_r:=a_a.mk (hbox);have l_D:=a_a.mk ((by rw [hg];exact (a_m (lup_ HB.out)) : w.heap.size ≤ c_4));have c_V:=a_a.mk ((by rw [hg];exact (a_m (lup_ HB.out)) : w.heap.size ≤ c_4));replace c_A:=a_a.mk (Kd.a_y (rup_ c_A.out) hb);replace HB:=a_a.mk (a_i (lup_ HB.out) hb);clear hb hbox hg;obtain ⟨Ao15,co15,eo15⟩:=Kd.b_D c_A.out;subst eo15;have h_I : w14.cell? ⟨c_4,0,none⟩ = some (.slice none 0 0):=(a_j c_r.out 0).trans rfl;have h_J:=a_k c_r.out 0)|((with_reducible refine a_B (f:=29) rfl ?_);refine b_f (some 18) rfl rfl Try.func29 (by kernel_rfl) rfl #[.agg #[.slice Ao15 t110.length co15],.int .i64 0,.int .u32 12] rfl (by (try simp only [List.map_toArray,List.map_cons,List.map_nil]);first|done|rfl|(simp only [List.length_drop,List.length_take];rfl)) ?_;(with_reducible refine (b_u.calls k _ _ t110 0 12 t115 t118 t119 _ ?side1 ?side2 A2.out).mono ?_);(case side1 => refine (Kd.a_r (e:=31) (base:=w.heap.size) (ok:=fun k_ => True) (n:=t110.length) (c:=co15) ?_).2.2;exact (by (with_reducible repeat (first|apply Kd.a_5|apply Kd.a_1|apply Kd.a_0));exact (Kd.b_v (Kd.c_g (p:=⟨c_4,0,none⟩) (Kd.b_F c_A.out c_r.out (by decide)) (fun _ hk => hk.2) (.slice Ao15 t110.length co15)) (fun _ h_ => h_.1))));(case side2 => exact (Kd.a_r c_A.out).2.1);rintro e w17 ⟨v116,rfl,ho0,hb⟩;refine ⟨_,rfl,?_⟩;have c_5:=a_a.mk (Kd.b_y (Kd.c_t ho0 (Kd.R_lt (by (with_reducible repeat (first|apply Kd.a_5|apply Kd.a_1|apply Kd.a_0));exact (Kd.b_v (Kd.c_g (p:=⟨c_4,0,none⟩) (Kd.b_F c_A.out c_r.out (by decide)) (fun _ hk => hk.2) (.slice Ao15 t110.length co15)) (fun _ h_ => h_.1))))) (a_m (by repeat (first|(with_reducible first|exact HB.out|apply a_f|apply a_d|apply a_g|refine a_c ?_ c_V.out)|exact HB.out))));replace c_A:=a_a.mk (Kd.b_T (by (with_reducible repeat (first|apply Kd.a_5|apply Kd.a_1|apply Kd.a_0));exact (Kd.b_v (Kd.c_g (p:=⟨c_4,0,none⟩) (Kd.b_F c_A.out c_r.out (by decide)) (fun _ hk => hk.2) (.slice Ao15 t110.length co15)) (fun _ h_ => h_.1))) (Kd.c_k ho0) hb);replace c_r:=a_a.mk (a_e (g:=c_4) (o:=.cells #[.slice Ao15 t110.length co15] 26 (0,0)) (by (with_reducible repeat (first|refine a_u ?_ _|refine a_t ?_|refine a_w ?_ _));refine b_q (cs:=#[.slice none 0 0]) ?_ 0 _ rfl;(with_reducible repeat (first|refine a_u ?_ _|refine a_t ?_|refine a_w ?_ _));exact c_r.out) hb);replace HB:=a_a.mk (a_i (by repeat (first|(with_reducible first|exact HB.out|apply a_f|apply a_d|apply a_g|refine a_c ?_ c_V.out)|exact HB.out)) hb);(try clear hb);(try clear hb2);(try clear hk);(try clear hi);(try clear ho0))|((with_reducible refine a_E (N:=3) rfl ?_);(try (refine b_G (by rfl) ?_;dsimp only));refine a_D ?hg (N:=3) ?hd (cs:=#[.slice none 0 0]) (t:=26) ?hr ?_;(case hd => rfl);(case hg => rfl);(case hr => first|(go_simp;done)|(go_simp;rfl));intro c_W hg w18 hbox hb;have c_H:=a_a.mk (hbox);have l_E:=a_a.mk ((by rw [hg];exact (a_m (by repeat (first|(with_reducible first|exact HB.out|apply a_f|apply a_d|apply a_g|refine a_c ?_ c_V.out)|exact HB.out))) : w.heap.size ≤ c_W));have d_W:=a_a.mk ((by rw [hg];exact (a_m (by repeat (first|(with_reducible first|exact HB.out|apply a_f|apply a_d|apply a_g|refine a_c ?_ c_V.out)|exact HB.out))) : w.heap.size ≤ c_W));have e_T:=a_a.mk ((by rw [hg];exact Nat.ne_of_lt (a_p (bup_ c_r.out)) : c_4 ≠ c_W));have g_v:=a_a.mk ((by rw [hg];exact Nat.ne_of_gt (a_p (bup_ c_r.out)) : c_W ≠ c_4));replace c_A:=a_a.mk (Kd.a_y (rup_ c_A.out) hb);replace c_5:=a_a.mk (Kd.a_y (rup_ c_5.out) hb);replace c_r:=a_a.mk (a_e (bup_ c_r.out) hb);replace HB:=a_a.mk (a_i (by repeat (first|(with_reducible first|exact HB.out|apply a_f|apply a_d|apply a_g|refine a_c ?_ c_V.out)|exact HB.out)) hb);clear hb hbox hg;obtain ⟨Ao19,co19,eo19⟩:=Kd.b_D c_5.out;subst eo19;have l_F:=g_v.out;have l_G:=e_T.out;have g_n : w18.cell? ⟨c_W,0,none⟩ = some (.slice none 0 0):=(a_j c_H.out 0).trans rfl;have g_o:=a_k c_H.out 0)|((with_reducible refine a_B (f:=31) rfl ?_);refine b_f (some 24) rfl rfl Try.func31 (by kernel_rfl) rfl #[.agg #[.slice Ao19 t115.length co19],.int .i64 2,.int .i64 0] rfl (by (try simp only [List.map_toArray,List.map_cons,List.map_nil]);first|done|rfl|(simp only [List.length_drop,List.length_take];rfl)) ?_;(with_reducible refine (b_p.calls k _ _ t115 2 0 t121 t124 t125 _ ?side1 ?side2 A3.out).mono ?_);(case side1 => refine (Kd.a_r (e:=31) (base:=w.heap.size) (ok:=fun k_ => (True ∧ some k_ ≠ (.slice Ao15 t110.length co15 : Value).ownBlock)) (n:=t115.length) (c:=co19) ?_).2.2;exact (by (with_reducible repeat (first|apply Kd.a_5|apply Kd.a_1|apply Kd.a_0));exact (Kd.b_v (Kd.c_g (p:=⟨c_W,0,none⟩) (Kd.b_F c_5.out c_H.out (by decide)) (fun _ hk => hk.2) (.slice Ao19 t115.length co19)) (fun _ h_ => h_.1))));(case side2 => exact (Kd.a_r c_5.out).2.1);rintro e w22 ⟨v122,rfl,ho0,hb⟩;refine ⟨_,rfl,?_⟩;have d_A:=a_a.mk (Kd.b_y (Kd.c_t (Kd.c_t ho0 (Kd.R_lt (by (with_reducible repeat (first|apply Kd.a_5|apply Kd.a_1|apply Kd.a_0));exact (Kd.b_v (Kd.c_g (p:=⟨c_W,0,none⟩) (Kd.b_F c_A.out c_H.out (by decide)) (fun _ hk => hk.2) (.slice Ao19 t115.length co19)) (fun _ h_ => h_.1))))) (Kd.R_lt (by (with_reducible repeat (first|apply Kd.a_5|apply Kd.a_1|apply Kd.a_0));exact (Kd.b_v (Kd.c_g (p:=⟨c_W,0,none⟩) (Kd.b_F c_5.out c_H.out (by decide)) (fun _ hk => hk.2) (.slice Ao19 t115.length co19)) (fun _ h_ => h_.1))))) (a_m (by repeat (first|(with_reducible first|exact HB.out|apply a_f|apply a_d|apply a_g|refine a_c ?_ c_V.out|refine a_c ?_ d_W.out)|exact HB.out))));replace c_A:=a_a.mk (Kd.b_T (by (with_reducible repeat (first|apply Kd.a_5|apply Kd.a_1|apply Kd.a_0));exact (Kd.b_v (Kd.c_g (p:=⟨c_W,0,none⟩) (Kd.b_F c_A.out c_H.out (by decide)) (fun _ hk => hk.2) (.slice Ao19 t115.length co19)) (fun _ h_ => h_.1))) (Kd.c_k ho0) hb);replace c_5:=a_a.mk (Kd.b_T (by (with_reducible repeat (first|apply Kd.a_5|apply Kd.a_1|apply Kd.a_0));exact (Kd.b_v (Kd.c_g (p:=⟨c_W,0,none⟩) (Kd.b_F c_5.out c_H.out (by decide)) (fun _ hk => hk.2) (.slice Ao19 t115.length co19)) (fun _ h_ => h_.1))) (Kd.c_k ho0) hb);replace c_r:=a_a.mk (a_e (g:=c_4) (o:=.cells #[.slice Ao15 t110.length co15] 26 (0,0)) (by (with_reducible repeat (first|refine a_u ?_ _|refine a_t ?_|refine a_w ?_ _));refine a_Q ?_ e_T.out _;(with_reducible repeat (first|refine a_u ?_ _|refine a_t ?_|refine a_w ?_ _));exact c_r.out) hb);replace c_H:=a_a.mk (a_e (g:=c_W) (o:=.cells #[.slice Ao19 t115.length co19] 26 (0,0)) (by (with_reducible repeat (first|refine a_u ?_ _|refine a_t ?_|refine a_w ?_ _));refine b_q (cs:=#[.slice none 0 0]) ?_ 0 _ rfl;(with_reducible repeat (first|refine a_u ?_ _|refine a_t ?_|refine a_w ?_ _));exact c_H.out) hb);replace HB:=a_a.mk (a_i (by repeat (first|(with_reducible first|exact HB.out|apply a_f|apply a_d|apply a_g|refine a_c ?_ c_V.out|refine a_c ?_ d_W.out)|exact HB.out)) hb);(try clear hb);(try clear hb2);(try clear hk);(try clear hi);(try clear ho0))|((with_reducible refine a_E (N:=6) rfl ?_);(try (refine b_G (by rfl) ?_;dsimp only));refine a_D ?hg (N:=6) ?hd (cs:=#[.slice none 0 0]) (t:=26) ?hr ?_;(case hd => rfl);(case hg => rfl);(case hr => first|(go_simp;done)|(go_simp;rfl));intro c_L hg w23 hbox hb;have c_S:=a_a.mk (hbox);have l_H:=a_a.mk ((by rw [hg];exact (a_m (by repeat (first|(with_reducible first|exact HB.out|apply a_f|apply a_d|apply a_g|refine a_c ?_ c_V.out|refine a_c ?_ d_W.out)|exact HB.out))) : w.heap.size ≤ c_L));have f_N:=a_a.mk ((by rw [hg];exact (a_m (by repeat (first|(with_reducible first|exact HB.out|apply a_f|apply a_d|apply a_g|refine a_c ?_ c_V.out|refine a_c ?_ d_W.out)|exact HB.out))) : w.heap.size ≤ c_L));have e_U:=a_a.mk ((by rw [hg];exact Nat.ne_of_lt (a_p (bup_ c_r.out)) : c_4 ≠ c_L));have g_w:=a_a.mk ((by rw [hg];exact Nat.ne_of_gt (a_p (bup_ c_r.out)) : c_L ≠ c_4));have e_V:=a_a.mk ((by rw [hg];exact Nat.ne_of_lt (a_p (bup_ c_H.out)) : c_W ≠ c_L));have g_x:=a_a.mk ((by rw [hg];exact Nat.ne_of_gt (a_p (bup_ c_H.out)) : c_L ≠ c_W));replace c_A:=a_a.mk (Kd.a_y (rup_ c_A.out) hb);replace c_5:=a_a.mk (Kd.a_y (rup_ c_5.out) hb);replace d_A:=a_a.mk (Kd.a_y (rup_ d_A.out) hb);replace c_r:=a_a.mk (a_e (bup_ c_r.out) hb);replace c_H:=a_a.mk (a_e (bup_ c_H.out) hb);replace HB:=a_a.mk (a_i (by repeat (first|(with_reducible first|exact HB.out|apply a_f|apply a_d|apply a_g|refine a_c ?_ c_V.out|refine a_c ?_ d_W.out)|exact HB.out)) hb);clear hb hbox hg;obtain ⟨Ao24,co24,eo24⟩:=Kd.b_D d_A.out;subst eo24;have l_I:=g_w.out;have l_J:=e_U.out;have l_K:=g_x.out;have l_L:=e_V.out;have h_S : w23.cell? ⟨c_L,0,none⟩ = some (.slice none 0 0):=(a_j c_S.out 0).trans rfl;have h_T:=a_k c_S.out 0)|((with_reducible refine a_B (f:=31) rfl ?_);refine b_f (some 30) rfl rfl Try.func31 (by kernel_rfl) rfl #[.agg #[.slice Ao24 t121.length co24],.int .i64 3,.int .i64 0] rfl (by (try simp only [List.map_toArray,List.map_cons,List.map_nil]);first|done|rfl|(simp only [List.length_drop,List.length_take];rfl)) ?_;(with_reducible refine (b_p.calls k _ _ t121 3 0 t127 t130 t131 _ ?side1 ?side2 A4.out).mono ?_);(case side1 => refine (Kd.a_r (e:=31) (base:=w.heap.size) (ok:=fun k_ => ((True ∧ some k_ ≠ (.slice Ao15 t110.length co15 : Value).ownBlock) ∧ some k_ ≠ (.slice Ao19 t115.length co19 : Value).ownBlock)) (n:=t121.length) (c:=co24) ?_).2.2;exact (by (with_reducible repeat (first|apply Kd.a_5|apply Kd.a_1|apply Kd.a_0));exact (Kd.b_v (Kd.c_g (p:=⟨c_L,0,none⟩) (Kd.b_F d_A.out c_S.out (by decide)) (fun _ hk => hk.2) (.slice Ao24 t121.length co24)) (fun _ h_ => h_.1))));(case side2 => exact (Kd.a_r d_A.out).2.1);rintro e w28 ⟨v128,rfl,ho0,hb⟩;refine ⟨_,rfl,?_⟩;have h_U:=a_a.mk (Kd.b_y (Kd.c_t (Kd.c_t (Kd.c_t ho0 (Kd.R_lt (by (with_reducible repeat (first|apply Kd.a_5|apply Kd.a_1|apply Kd.a_0));exact (Kd.b_v (Kd.c_g (p:=⟨c_L,0,none⟩) (Kd.b_F c_A.out c_S.out (by decide)) (fun _ hk => hk.2) (.slice Ao24 t121.length co24)) (fun _ h_ => h_.1))))) (Kd.R_lt (by (with_reducible repeat (first|apply Kd.a_5|apply Kd.a_1|apply Kd.a_0));exact (Kd.b_v (Kd.c_g (p:=⟨c_L,0,none⟩) (Kd.b_F c_5.out c_S.out (by decide)) (fun _ hk => hk.2) (.slice Ao24 t121.length co24)) (fun _ h_ => h_.1))))) (Kd.R_lt (by (with_reducible repeat (first|apply Kd.a_5|apply Kd.a_1|apply Kd.a_0));exact (Kd.b_v (Kd.c_g (p:=⟨c_L,0,none⟩) (Kd.b_F d_A.out c_S.out (by decide)) (fun _ hk => hk.2) (.slice Ao24 t121.length co24)) (fun _ h_ => h_.1))))) (a_m (by repeat (first|(with_reducible first|exact HB.out|apply a_f|apply a_d|apply a_g|refine a_c ?_ c_V.out|refine a_c ?_ d_W.out|refine a_c ?_ f_N.out)|exact HB.out))));replace c_A:=a_a.mk (Kd.b_T (by (with_reducible repeat (first|apply Kd.a_5|apply Kd.a_1|apply Kd.a_0));exact (Kd.b_v (Kd.c_g (p:=⟨c_L,0,none⟩) (Kd.b_F c_A.out c_S.out (by decide)) (fun _ hk => hk.2) (.slice Ao24 t121.length co24)) (fun _ h_ => h_.1))) (Kd.c_k ho0) hb);replace c_5:=a_a.mk (Kd.b_T (by (with_reducible repeat (first|apply Kd.a_5|apply Kd.a_1|apply Kd.a_0));exact (Kd.b_v (Kd.c_g (p:=⟨c_L,0,none⟩) (Kd.b_F c_5.out c_S.out (by decide)) (fun _ hk => hk.2) (.slice Ao24 t121.length co24)) (fun _ h_ => h_.1))) (Kd.c_k ho0) hb);replace d_A:=a_a.mk (Kd.b_T (by (with_reducible repeat (first|apply Kd.a_5|apply Kd.a_1|apply Kd.a_0));exact (Kd.b_v (Kd.c_g (p:=⟨c_L,0,none⟩) (Kd.b_F d_A.out c_S.out (by decide)) (fun _ hk => hk.2) (.slice Ao24 t121.length co24)) (fun _ h_ => h_.1))) (Kd.c_k ho0) hb);replace c_r:=a_a.mk (a_e (g:=c_4) (o:=.cells #[.slice Ao15 t110.length co15] 26 (0,0)) (by (with_reducible repeat (first|refine a_u ?_ _|refine a_t ?_|refine a_w ?_ _));refine a_Q ?_ e_U.out _;(with_reducible repeat (first|refine a_u ?_ _|refine a_t ?_|refine a_w ?_ _));exact c_r.out) hb);replace c_H:=a_a.mk (a_e (g:=c_W) (o:=.cells #[.slice Ao19 t115.length co19] 26 (0,0)) (by (with_reducible repeat (first|refine a_u ?_ _|refine a_t ?_|refine a_w ?_ _));refine a_Q ?_ e_V.out _;(with_reducible repeat (first|refine a_u ?_ _|refine a_t ?_|refine a_w ?_ _));exact c_H.out) hb);replace c_S:=a_a.mk (a_e (g:=c_L) (o:=.cells #[.slice Ao24 t121.length co24] 26 (0,0)) (by (with_reducible repeat (first|refine a_u ?_ _|refine a_t ?_|refine a_w ?_ _));refine b_q (cs:=#[.slice none 0 0]) ?_ 0 _ rfl;(with_reducible repeat (first|refine a_u ?_ _|refine a_t ?_|refine a_w ?_ _));exact c_S.out) hb);replace HB:=a_a.mk (a_i (by repeat (first|(with_reducible first|exact HB.out|apply a_f|apply a_d|apply a_g|refine a_c ?_ c_V.out|refine a_c ?_ d_W.out|refine a_c ?_ f_N.out)|exact HB.out)) hb);(try clear hb);(try clear hb2);(try clear hk);(try clear hi);(try clear ho0))|((with_reducible refine a_E (N:=9) rfl ?_);(try (refine b_G (by rfl) ?_;dsimp only));refine a_D ?hg (N:=9) ?hd (cs:=#[.slice none 0 0]) (t:=26) ?hr ?_;(case hd => rfl);(case hg => rfl);(case hr => first|(go_simp;done)|(go_simp;rfl));intro d_X hg w29 hbox hb;have h_V:=a_a.mk (hbox);have l_M:=a_a.mk ((by rw [hg];exact (a_m (by repeat (first|(with_reducible first|exact HB.out|apply a_f|apply a_d|apply a_g|refine a_c ?_ c_V.out|refine a_c ?_ d_W.out|refine a_c ?_ f_N.out)|exact HB.out))) : w.heap.size ≤ d_X));have k_k:=a_a.mk ((by rw [hg];exact (a_m (by repeat (first|(with_reducible first|exact HB.out|apply a_f|apply a_d|apply a_g|refine a_c ?_ c_V.out|refine a_c ?_ d_W.out|refine a_c ?_ f_N.out)|exact HB.out))) : w.heap.size ≤ d_X));have g_y:=a_a.mk ((by rw [hg];exact Nat.ne_of_lt (a_p (bup_ c_r.out)) : c_4 ≠ d_X));have g_z:=a_a.mk ((by rw [hg];exact Nat.ne_of_gt (a_p (bup_ c_r.out)) : d_X ≠ c_4));have g_A:=a_a.mk ((by rw [hg];exact Nat.ne_of_lt (a_p (bup_ c_H.out)) : c_W ≠ d_X));have g_B:=a_a.mk ((by rw [hg];exact Nat.ne_of_gt (a_p (bup_ c_H.out)) : d_X ≠ c_W));have g_C:=a_a.mk ((by rw [hg];exact Nat.ne_of_lt (a_p (bup_ c_S.out)) : c_L ≠ d_X));have g_D:=a_a.mk ((by rw [hg];exact Nat.ne_of_gt (a_p (bup_ c_S.out)) : d_X ≠ c_L));replace c_A:=a_a.mk (Kd.a_y (rup_ c_A.out) hb);replace c_5:=a_a.mk (Kd.a_y (rup_ c_5.out) hb);replace d_A:=a_a.mk (Kd.a_y (rup_ d_A.out) hb);replace h_U:=a_a.mk (Kd.a_y (rup_ h_U.out) hb);replace c_r:=a_a.mk (a_e (bup_ c_r.out) hb);replace c_H:=a_a.mk (a_e (bup_ c_H.out) hb);replace c_S:=a_a.mk (a_e (bup_ c_S.out) hb);replace HB:=a_a.mk (a_i (by repeat (first|(with_reducible first|exact HB.out|apply a_f|apply a_d|apply a_g|refine a_c ?_ c_V.out|refine a_c ?_ d_W.out|refine a_c ?_ f_N.out)|exact HB.out)) hb);clear hb hbox hg;obtain ⟨Ao30,co30,eo30⟩:=Kd.b_D h_U.out;subst eo30;have k_l:=g_z.out;have k_m:=g_y.out;have k_n:=g_B.out;have k_o:=g_A.out;have l_N:=g_D.out;have l_O:=g_C.out;have k_p : w29.cell? ⟨d_X,0,none⟩ = some (.slice none 0 0):=(a_j h_V.out 0).trans rfl;have k_q:=a_k h_V.out 0;have h_W : w29.cell? ⟨c_L,0,none⟩ = some (.slice Ao24 t121.length co24):=(a_j c_S.out 0).trans rfl;have h_X:=a_k c_S.out 0;have p133 : 0 ≤ (0 : Int):=(by omega);have q133 : 0 < (t121.length : Int):=of_decide_eq_true (by first|(with_reducible assumption)|assumption);obtain ⟨ad133,e133,e_x⟩:=Kd.b_w (Kd.a_r d_A.out).2.2 0 p133 q133;cases e133;have qi133 : (0 < t121.length) = True:=eq_true (by omega);(try rw [show ((0 : Int)).toNat = 0 from rfl] at e_x);(try rw [Addr.add_zero'] at e_x);have hn133_0 : ad133.block ≠ d_X:=Kd.g_b (Kd.R_ne d_A.out h_V.out (by decide));replace e_x:=(cell_far (p:=⟨d_X,0,none⟩) (by first|(rw [add_block];exact hn133_0)|(show (Addr.add _ _).block ≠ _;rw [add_block];exact hn133_0)|exact hn133_0) (.slice Ao30 t127.length co30)).trans e_x;clear hn133_0;replace p133:=eq_true p133;replace q133:=eq_true q133))
 go_ret
 exact ⟨by first|rfl|(simp [a_z,a_A] <;> rfl)|(simp [*, a_z,a_A] <;> rfl),by repeat (first|(with_reducible first|exact HB.out|apply a_f|apply a_d|apply a_g|refine a_c ?_ c_V.out|refine a_c ?_ d_W.out|refine a_c ?_ f_N.out|refine a_c ?_ k_k.out)|exact HB.out)⟩
end Go.Proofs.Ytkhbffjfclepfaa.Q
end
