/- Part 4 of 7 of what the row of PoolTells stands on: contracts over the given program's functions, the plain law, the row; no condition beyond those that each theorem states. -/
import Derived.Test.YtkhbffjfclepfaaXPoolTells2
import Derived.RegionTactic
import Derived.BigRegion
import Derived.Deep.RegionLaw
section
namespace Go.Proofs.Ytkhbffjfclepfaa.Q
open Go.RowKit Go.Proofs.YtkhbffjfclepfaaW.PrintWords Go.Proofs.YtkhbffjfclepfaaW.PrintLast Go.Proofs.YtkhbffjfclepfaaW.PrintMore
set_option linter.unusedVariables false
set_option linter.unusedSimpArgs false
set_option maxHeartbeats 2000000 in
theorem b_C.ok (gq gs gf gn : Nat) (l : List Int) (frm s : Int) (v : Value) (base B0 : Nat) (w : World)
 (hq : w.heap[gq]? = some (.cells #[v] 26 (0,0))) (hR : Kd.R (Kd.int .u32) 31 w B0 (fun _ => True) v l)
 (hs : w.heap[gs]? = some (.cells #[.int .u32 s] 31 (0,0))) (hf : w.heap[gf]? = some (.cells #[.int .i64 frm] 3 (0,0))) (hn : w.heap[gn]? = some (.cells #[.int .i64 0] 3 (0,0)))
 (h0 : 0 ≤ frm) (h1 : frm < l.length) (hl : l.length < 35184372088832) (hB0 : ∀ g,g = gs ∨ g = gf ∨ g = gn → g < B0) (hfn : gf ≠ gn) (hB0w : B0 ≤ w.heap.size) (hbn : base ≤ gn) (hbB : base ≤ B0) (hBq : B0 ≤ gq)
 (hc : b_h.f s = some 0) (hs0 : s ≠ 0) (hw : b_A.f s (rd l frm) = some true) (hne : s ≠ rd l frm) (h4 : l.length ≠ 4) :
 Calls Try.prog 46 #[.pointer (some ⟨gq,0,none⟩),.pointer (some ⟨gs,0,none⟩),.pointer (some ⟨gf,0,none⟩),.pointer (some ⟨gn,0,none⟩)] w fun e W' => e = .returned (.int .i64 0) ∧ Below base w W' ∧ W'.heap[gn]? = some (.cells #[.int .i64 l.length] 3 (0,0)) ∧ (∀ k,k < w.heap.size → k ≠ gq → k ≠ gn → some k ≠ v.ownBlock → W'.heap[k]? = w.heap[k]?) ∧ ∃ v',W'.heap[gq]? = some (.cells #[v'] 26 (0,0)) ∧ Kd.R (Kd.int .u32) 31 W' B0 (fun _ => True) v' (l.set frm.toNat (bits .andNot .u32 (rd l frm) s) ++ [s]):=by
 have HX0:=a_a.mk hB0w
 have HX1:=a_a.mk hbn
 have HX2:=a_a.mk hbB
 have HX3:=a_a.mk hBq
 clear hB0w hbn hbB hBq
 obtain ⟨go,co,rfl,hgo,hgl,cl,HG⟩:=Kd.c_X hR (by omega)
 have BKq:=a_a.mk hq
 have BKs:=a_a.mk hs
 have BKf:=a_a.mk hf
 have BKn:=a_a.mk hn
 have HO:=a_a.mk hR
 have HC:=a_a.mk hc
 have HW:=a_a.mk hw
 have cq : w.cell? ⟨gq,0,none⟩ = some (.slice (some ⟨go,0,none⟩) l.length co):=(a_j hq 0).trans rfl
 have cs : w.cell? ⟨gs,0,none⟩ = some (.int .u32 s):=(a_j hs 0).trans rfl
 have cf : w.cell? ⟨gf,0,none⟩ = some (.int .i64 frm):=(a_j hf 0).trans rfl
 have cn : w.cell? ⟨gn,0,none⟩ = some (.int .i64 0):=(a_j hn 0).trans rfl
 have fn_:=a_k hn 0
 have fq_:=a_k hq 0
 obtain ⟨ce,fe⟩:=Kd.c_n 0 hR frm h0 h1
 have n1 : ¬ gn = gq:=by have:=hB0 gn (by simp);intro e;subst e;rw [hq] at hn;cases hn
 have n2 : ¬ gs = gn:=by intro e;subst e;rw [hs] at hn;cases hn
 have n3 : ¬ gs = go:=by have:=hB0 gs (by simp);omega
 have n4 : ¬ gf = go:=by have:=hB0 gf (by simp);omega
 have n5 : ¬ gn = go:=by have:=hB0 gn (by simp);omega
 have n6 : ¬ gq = go:=by intro e;subst e;rw [hq] at HG;cases HG
 have n7 : ¬ gq = gn:=fun e => n1 e.symm
 have n8 : ¬ go = gn:=fun e => n5 e.symm
 clear hq hs hf hn hR hc hw hB0 HG
 have d1 : (s == 0) = false:=beq_eq_false_iff_ne.mpr hs0
 have d2 : (s == rd l frm) = false:=beq_eq_false_iff_ne.mpr hne
 have d3 : ((l.length : Int) == 4) = false:=beq_eq_false_iff_ne.mpr (by omega)
 have d4 : decide (0 ≤ frm) = true:=decide_eq_true h0
 have d5 : decide (frm < (l.length : Int)) = true:=decide_eq_true h1
 have d6:=eq_true h0
 have d7:=eq_true h1
 clear hs0 hne h4 h0 h1
 have e : rdOf 0 l frm = rd l frm:=rfl
 rw [e] at ce
 clear e
 go_enter Try.func46,Try.ntmps46
 go_wp2_with (first|(go_at_call 38;refine (b_h.calls s 0 _ HC.out).mono ?_;rintro e w' ⟨rfl,nd,rfl⟩))
 go_quiet (fail)
 go_wp2_with (first|(go_at_call 47;refine (b_A.calls s _ true _ HW.out).mono ?_;rintro e w' ⟨rfl,nd2,rfl⟩))
 go_region
 have HO2 : a_a (Kd.R (Kd.int .u32) 31 (((w.drewN (nd + nq + nd2)).setCell ⟨gn,0,none⟩ (.int .i64 l.length)).setCell ⟨go,frm.toNat,none⟩ (.int .u32 (bits .andNot .u32 (rd l frm) s))).drew B0 (fun _ => True) (.slice (some ⟨go,0,none⟩) l.length co) (l.set frm.toNat (bits .andNot .u32 (rd l frm) s))):=⟨Kd.a_0 (Kd.f_Z (Kd.c_J (Kd.a_1 HO.out _) (a_u BKn.out _) (by decide) 0 _) frm _)⟩
 have BKq2 : a_a ((((w.drewN (nd + nq + nd2)).setCell ⟨gn,0,none⟩ (.int .i64 l.length)).setCell ⟨go,frm.toNat,none⟩ (.int .u32 (bits .andNot .u32 (rd l frm) s))).drew.heap[gq]? = some (.cells #[.slice (some ⟨go,0,none⟩) l.length co] 26 (0,0))):=⟨a_t (a_Q (a_Q (a_u BKq.out _) (p:=⟨gn,0,none⟩) n7 _) (p:=⟨go,frm.toNat,none⟩) n6 _)⟩
 have BKn2 : a_a ((((w.drewN (nd + nq + nd2)).setCell ⟨gn,0,none⟩ (.int .i64 l.length)).setCell ⟨go,frm.toNat,none⟩ (.int .u32 (bits .andNot .u32 (rd l frm) s))).drew.heap[gn]? = some (.cells #[.int .i64 l.length] 3 (0,0))):=⟨a_t (a_Q (b_q (cs:=#[.int .i64 0]) (a_u BKn.out _) 0 _ rfl) (p:=⟨go,frm.toNat,none⟩) n5 _)⟩
 have BKs2 : a_a ((((w.drewN (nd + nq + nd2)).setCell ⟨gn,0,none⟩ (.int .i64 l.length)).setCell ⟨go,frm.toNat,none⟩ (.int .u32 (bits .andNot .u32 (rd l frm) s))).drew.heap[gs]? = some (.cells #[.int .u32 s] 31 (0,0))):=⟨a_t (a_Q (a_Q (a_u BKs.out _) (p:=⟨gn,0,none⟩) n2 _) (p:=⟨go,frm.toNat,none⟩) n3 _)⟩
 have HX : a_a (B0 ≤ (((w.drewN (nd + nq + nd2)).setCell ⟨gn,0,none⟩ (.int .i64 l.length)).setCell ⟨go,frm.toNat,none⟩ (.int .u32 (bits .andNot .u32 (rd l frm) s))).drew.drew.heap.size):=⟨by have:=HX0.out;simpa [World.setCell] using this⟩
 have FB : a_a (Below base w (((w.drewN (nd + nq + nd2)).setCell ⟨gn,0,none⟩ (.int .i64 l.length)).setCell ⟨go,frm.toNat,none⟩ (.int .u32 (bits .andNot .u32 (rd l frm) s))).drew):=⟨(((Below.refl base w).trans (a_d (Below.refl _ _) (nd + nq + nd2) |>.mono (Nat.le_trans HX2.out HX0.out))).setCell (p:=⟨gn,0,none⟩) HX1.out _ |>.setCell (p:=⟨go,frm.toNat,none⟩) (Nat.le_trans HX2.out hgo) _).drew⟩
 have FK : a_a (∀ k,k ≠ gn → k ≠ go → (((w.drewN (nd + nq + nd2)).setCell ⟨gn,0,none⟩ (.int .i64 l.length)).setCell ⟨go,frm.toNat,none⟩ (.int .u32 (bits .andNot .u32 (rd l frm) s))).drew.heap[k]? = w.heap[k]?):=⟨fun k k1 k2 => (Below.heap_setCell _ ⟨go,frm.toNat,none⟩ _ k k2).trans (Below.heap_setCell _ ⟨gn,0,none⟩ _ k k1)⟩
 have FS : a_a ((((w.drewN (nd + nq + nd2)).setCell ⟨gn,0,none⟩ (.int .i64 l.length)).setCell ⟨go,frm.toNat,none⟩ (.int .u32 (bits .andNot .u32 (rd l frm) s))).drew.heap.size = w.heap.size):=⟨by simp [World.setCell]⟩
 generalize (((w.drewN (nd + nq + nd2)).setCell ⟨gn,0,none⟩ (.int .i64 l.length)).setCell ⟨go,frm.toNat,none⟩ (.int .u32 (bits .andNot .u32 (rd l frm) s))).drew = w2 at HO2 BKq2 BKn2 BKs2 HX FB FK FS ⊢
 clear cq cs cf cn ce
 have cq : w2.cell? ⟨gq,0,none⟩ = some (.slice (some ⟨go,0,none⟩) l.length co):=(a_j BKq2.out 0).trans rfl
 have cs : w2.cell? ⟨gs,0,none⟩ = some (.int .u32 s):=(a_j BKs2.out 0).trans rfl
 go_wp2
 have HL:=a_a.mk hl
 have fq2:=a_k BKq2.out 0
 clear fe fn_ fq_ hl
 have cq3 : (w2.alloc (.cells #[.int .u32 s] 31)).cell? ⟨gq,0,none⟩ = some (.slice (some ⟨go,0,none⟩) l.length co):=(a_j (a_w BKq2.out _) 0).trans rfl
 go_region_law (refine Kd.e_t (Kd.int .u32) (w0:=w2) (W:=w2.drew) B0 rfl (.tmp 59) (.tmp 61) 24 31 (.int .u32 0) 4 rfl Try.underlying24 f_w rfl (by decide) (by decide) (.slice (some ⟨go,0,none⟩) l.length co) (l.set frm.toNat (bits .andNot .u32 (rd l frm) s)) s [.int .u32 s] (fun _ => True) (fun _ => False) rfl rfl rfl (fun _ h => h.elim) (fun _ _ => trivial) (Kd.a_0 HO2.out) (Below.drew (Below.refl _ _)) HX.out (by have:=HL.out;simp;omega) ?_;intro v1 w1 ho1 hb1 hg1 hat1;obtain ⟨A1,c1,e1⟩:=Kd.b_D ho1;subst e1;have fq1:=a_k (c_p (a_t BKq2.out) hg1 (Kd.R_ne HO2.out BKq2.out (by decide))) 0;have cq1 : w1.cell? ⟨gq,0,none⟩ = some (.slice (some ⟨go,0,none⟩) l.length co):=(a_j (c_p (a_t BKq2.out) hg1 (Kd.R_ne HO2.out BKq2.out (by decide))) 0).trans rfl)
 all_goals
  go_wp2
  go_ret
  refine ⟨rfl,?_,?_,?_,.slice A1 (l.length + 1) c1,?_,?_⟩
  ·exact (FB.out.trans (hb1.mono HX2.out)).setCell (p:=⟨gq,0,none⟩) (Nat.le_trans HX2.out HX3.out) _
  ·exact a_Q (c_p (g:=gn) (a_t BKn2.out) hg1 (fun e_ => n5 (Option.some.inj e_))) (p:=⟨gq,0,none⟩) n1 _
  ·intro k_ k1 k2 k3 k4
   refine (Below.heap_setCell _ ⟨gq,0,none⟩ _ k_ k2).trans ((hg1.block k_ (by show k_ < w2.heap.size;rw [FS.out];exact k1) k4).trans (FK.out k_ k3 (fun e_ => k4 (by rw [e_];rfl))))
  ·exact b_q (cs:=#[.slice (some ⟨go,0,none⟩) l.length co]) (c_p (a_t BKq2.out) hg1 (Kd.R_ne HO2.out BKq2.out (by decide))) 0 _ rfl
  ·rw [← show (l.set frm.toNat (bits .andNot .u32 (rd l frm) s) ++ [s]).length = l.length + 1 from by simp]
   exact Kd.c_J ho1 (c_p (a_t BKq2.out) hg1 (Kd.R_ne HO2.out BKq2.out (by decide))) (by decide) 0 _
set_option maxHeartbeats 2000000 in
theorem b_C.i_h (gq gs gf gn : Nat) (l : List Int) (frm s : Int) (v : Value) (B0 : Nat) (w : World)
 (hq : w.heap[gq]? = some (.cells #[v] 26 (0,0))) (hR : Kd.R (Kd.int .u32) 31 w B0 (fun _ => True) v l)
 (hs : w.heap[gs]? = some (.cells #[.int .u32 s] 31 (0,0))) (hf : w.heap[gf]? = some (.cells #[.int .i64 frm] 3 (0,0)))
 (h0 : 0 ≤ frm) (h1 : frm < l.length) (hl : l.length < 35184372088832) (c : Int) (hc : b_h.f s = some c) (hc0 : c ≠ 0) :
 Calls Try.prog 46 #[.pointer (some ⟨gq,0,none⟩),.pointer (some ⟨gs,0,none⟩),.pointer (some ⟨gf,0,none⟩),.pointer (some ⟨gn,0,none⟩)] w fun e W' => e = .returned (.int .i64 c) ∧ ∃ n,W' = w.drewN n:=by
 obtain ⟨go,co,rfl,hgo,hgl,cl,HG⟩:=Kd.c_X hR (by omega)
 have cq : w.cell? ⟨gq,0,none⟩ = some (.slice (some ⟨go,0,none⟩) l.length co):=(a_j hq 0).trans rfl
 have cs : w.cell? ⟨gs,0,none⟩ = some (.int .u32 s):=(a_j hs 0).trans rfl
 have cf : w.cell? ⟨gf,0,none⟩ = some (.int .i64 frm):=(a_j hf 0).trans rfl
 obtain ⟨ce,fe⟩:=Kd.c_n 0 hR frm h0 h1
 clear hq hs hf hR HG
 have d4 : decide (0 ≤ frm) = true:=decide_eq_true h0
 have d5 : decide (frm < (l.length : Int)) = true:=decide_eq_true h1
 have d6:=eq_true h0
 have d7:=eq_true h1
 have HC:=a_a.mk hc
 have d1 : (c != 0) = true:=bne_iff_ne.mpr hc0
 clear hc hc0 h0 h1
 have e : rdOf 0 l frm = rd l frm:=rfl
 rw [e] at ce
 clear e
 go_enter Try.func46,Try.ntmps46
 go_wp2_with (first|(go_at_call 38;refine (b_h.calls s c _ HC.out).mono ?_;rintro e w' ⟨rfl,nd,rfl⟩))
 go_ret
 exact ⟨rfl,_,rfl⟩
set_option maxHeartbeats 2000000 in
theorem b_C.empty (gq gs gf gn : Nat) (l : List Int) (frm s : Int) (v : Value) (B0 : Nat) (w : World)
 (hq : w.heap[gq]? = some (.cells #[v] 26 (0,0))) (hR : Kd.R (Kd.int .u32) 31 w B0 (fun _ => True) v l)
 (hs : w.heap[gs]? = some (.cells #[.int .u32 s] 31 (0,0))) (hf : w.heap[gf]? = some (.cells #[.int .i64 frm] 3 (0,0)))
 (h0 : 0 ≤ frm) (h1 : frm < l.length) (hl : l.length < 35184372088832) (hc : b_h.f s = some 0) (hs0 : s = 0) :
 Calls Try.prog 46 #[.pointer (some ⟨gq,0,none⟩),.pointer (some ⟨gs,0,none⟩),.pointer (some ⟨gf,0,none⟩),.pointer (some ⟨gn,0,none⟩)] w fun e W' => e = .returned (.int .i64 2) ∧ ∃ n,W' = w.drewN n:=by
 obtain ⟨go,co,rfl,hgo,hgl,cl,HG⟩:=Kd.c_X hR (by omega)
 have cq : w.cell? ⟨gq,0,none⟩ = some (.slice (some ⟨go,0,none⟩) l.length co):=(a_j hq 0).trans rfl
 have cs : w.cell? ⟨gs,0,none⟩ = some (.int .u32 s):=(a_j hs 0).trans rfl
 have cf : w.cell? ⟨gf,0,none⟩ = some (.int .i64 frm):=(a_j hf 0).trans rfl
 obtain ⟨ce,fe⟩:=Kd.c_n 0 hR frm h0 h1
 clear hq hs hf hR HG
 have d4 : decide (0 ≤ frm) = true:=decide_eq_true h0
 have d5 : decide (frm < (l.length : Int)) = true:=decide_eq_true h1
 have d6:=eq_true h0
 have d7:=eq_true h1
 have HC:=a_a.mk hc
 subst hs0
 clear hc h0 h1
 have e : rdOf 0 l frm = rd l frm:=rfl
 rw [e] at ce
 clear e
 go_enter Try.func46,Try.ntmps46
 go_wp2_with (first|(go_at_call 38;refine (b_h.calls 0 0 _ HC.out).mono ?_;rintro e w' ⟨rfl,nd,rfl⟩))
 go_quiet (fail)
 go_wp2
 go_ret
 exact ⟨rfl,_,rfl⟩
set_option maxHeartbeats 2000000 in
theorem b_C.outside (gq gs gf gn : Nat) (l : List Int) (frm s : Int) (v : Value) (B0 : Nat) (w : World)
 (hq : w.heap[gq]? = some (.cells #[v] 26 (0,0))) (hR : Kd.R (Kd.int .u32) 31 w B0 (fun _ => True) v l)
 (hs : w.heap[gs]? = some (.cells #[.int .u32 s] 31 (0,0))) (hf : w.heap[gf]? = some (.cells #[.int .i64 frm] 3 (0,0)))
 (h0 : 0 ≤ frm) (h1 : frm < l.length) (hl : l.length < 35184372088832) (hc : b_h.f s = some 0) (hs0 : s ≠ 0) (hw : b_A.f s (rd l frm) = some false) :
 Calls Try.prog 46 #[.pointer (some ⟨gq,0,none⟩),.pointer (some ⟨gs,0,none⟩),.pointer (some ⟨gf,0,none⟩),.pointer (some ⟨gn,0,none⟩)] w fun e W' => e = .returned (.int .i64 2) ∧ ∃ n,W' = w.drewN n:=by
 obtain ⟨go,co,rfl,hgo,hgl,cl,HG⟩:=Kd.c_X hR (by omega)
 have cq : w.cell? ⟨gq,0,none⟩ = some (.slice (some ⟨go,0,none⟩) l.length co):=(a_j hq 0).trans rfl
 have cs : w.cell? ⟨gs,0,none⟩ = some (.int .u32 s):=(a_j hs 0).trans rfl
 have cf : w.cell? ⟨gf,0,none⟩ = some (.int .i64 frm):=(a_j hf 0).trans rfl
 obtain ⟨ce,fe⟩:=Kd.c_n 0 hR frm h0 h1
 clear hq hs hf hR HG
 have d4 : decide (0 ≤ frm) = true:=decide_eq_true h0
 have d5 : decide (frm < (l.length : Int)) = true:=decide_eq_true h1
 have d6:=eq_true h0
 have d7:=eq_true h1
 have HC:=a_a.mk hc
 have HW:=a_a.mk hw
 have d1 : (s == 0) = false:=beq_eq_false_iff_ne.mpr hs0
 clear hc hw hs0 h0 h1
 have e : rdOf 0 l frm = rd l frm:=rfl
 rw [e] at ce
 clear e
 go_enter Try.func46,Try.ntmps46
 go_wp2_with (first|(go_at_call 38;refine (b_h.calls s 0 _ HC.out).mono ?_;rintro e w' ⟨rfl,nd,rfl⟩))
 go_quiet (fail)
 go_wp2_with (first|(go_at_call 47;refine (b_A.calls s _ false _ HW.out).mono ?_;rintro e w' ⟨rfl,nd2,rfl⟩))
 go_ret
 exact ⟨rfl,_,rfl⟩
set_option maxHeartbeats 2000000 in
theorem b_C.all (gq gs gf gn : Nat) (l : List Int) (frm s : Int) (v : Value) (B0 : Nat) (w : World)
 (hq : w.heap[gq]? = some (.cells #[v] 26 (0,0))) (hR : Kd.R (Kd.int .u32) 31 w B0 (fun _ => True) v l)
 (hs : w.heap[gs]? = some (.cells #[.int .u32 s] 31 (0,0))) (hf : w.heap[gf]? = some (.cells #[.int .i64 frm] 3 (0,0)))
 (h0 : 0 ≤ frm) (h1 : frm < l.length) (hl : l.length < 35184372088832) (hc : b_h.f s = some 0) (hs0 : s ≠ 0) (hw : b_A.f s (rd l frm) = some true) (he : s = rd l frm) :
 Calls Try.prog 46 #[.pointer (some ⟨gq,0,none⟩),.pointer (some ⟨gs,0,none⟩),.pointer (some ⟨gf,0,none⟩),.pointer (some ⟨gn,0,none⟩)] w fun e W' => e = .returned (.int .i64 181) ∧ ∃ n,W' = w.drewN n:=by
 obtain ⟨go,co,rfl,hgo,hgl,cl,HG⟩:=Kd.c_X hR (by omega)
 have cq : w.cell? ⟨gq,0,none⟩ = some (.slice (some ⟨go,0,none⟩) l.length co):=(a_j hq 0).trans rfl
 have cs : w.cell? ⟨gs,0,none⟩ = some (.int .u32 s):=(a_j hs 0).trans rfl
 have cf : w.cell? ⟨gf,0,none⟩ = some (.int .i64 frm):=(a_j hf 0).trans rfl
 obtain ⟨ce,fe⟩:=Kd.c_n 0 hR frm h0 h1
 clear hq hs hf hR HG
 have d4 : decide (0 ≤ frm) = true:=decide_eq_true h0
 have d5 : decide (frm < (l.length : Int)) = true:=decide_eq_true h1
 have d6:=eq_true h0
 have d7:=eq_true h1
 have HC:=a_a.mk hc
 have HW:=a_a.mk hw
 have d1 : (s == 0) = false:=beq_eq_false_iff_ne.mpr hs0
 have d2 : (s == rd l frm) = true:=beq_iff_eq.mpr he
 clear hc hw hs0 he h0 h1
 have e : rdOf 0 l frm = rd l frm:=rfl
 rw [e] at ce
 clear e
 go_enter Try.func46,Try.ntmps46
 go_wp2_with (first|(go_at_call 38;refine (b_h.calls s 0 _ HC.out).mono ?_;rintro e w' ⟨rfl,nd,rfl⟩))
 go_quiet (fail)
 go_wp2_with (first|(go_at_call 47;refine (b_A.calls s _ true _ HW.out).mono ?_;rintro e w' ⟨rfl,nd2,rfl⟩))
 go_ret
 exact ⟨rfl,_,rfl⟩
set_option maxHeartbeats 2000000 in
theorem b_C.full (gq gs gf gn : Nat) (l : List Int) (frm s : Int) (v : Value) (B0 : Nat) (w : World)
 (hq : w.heap[gq]? = some (.cells #[v] 26 (0,0))) (hR : Kd.R (Kd.int .u32) 31 w B0 (fun _ => True) v l)
 (hs : w.heap[gs]? = some (.cells #[.int .u32 s] 31 (0,0))) (hf : w.heap[gf]? = some (.cells #[.int .i64 frm] 3 (0,0)))
 (h0 : 0 ≤ frm) (h1 : frm < l.length) (hl : l.length < 35184372088832) (hc : b_h.f s = some 0) (hs0 : s ≠ 0) (hw : b_A.f s (rd l frm) = some true) (he : s ≠ rd l frm) (h4 : l.length = 4) :
 Calls Try.prog 46 #[.pointer (some ⟨gq,0,none⟩),.pointer (some ⟨gs,0,none⟩),.pointer (some ⟨gf,0,none⟩),.pointer (some ⟨gn,0,none⟩)] w fun e W' => e = .returned (.int .i64 6) ∧ ∃ n,W' = w.drewN n:=by
 obtain ⟨go,co,rfl,hgo,hgl,cl,HG⟩:=Kd.c_X hR (by omega)
 have cq : w.cell? ⟨gq,0,none⟩ = some (.slice (some ⟨go,0,none⟩) l.length co):=(a_j hq 0).trans rfl
 have cs : w.cell? ⟨gs,0,none⟩ = some (.int .u32 s):=(a_j hs 0).trans rfl
 have cf : w.cell? ⟨gf,0,none⟩ = some (.int .i64 frm):=(a_j hf 0).trans rfl
 obtain ⟨ce,fe⟩:=Kd.c_n 0 hR frm h0 h1
 clear hq hs hf hR HG
 have d4 : decide (0 ≤ frm) = true:=decide_eq_true h0
 have d5 : decide (frm < (l.length : Int)) = true:=decide_eq_true h1
 have d6:=eq_true h0
 have d7:=eq_true h1
 have HC:=a_a.mk hc
 have HW:=a_a.mk hw
 have d1 : (s == 0) = false:=beq_eq_false_iff_ne.mpr hs0
 have d2 : (s == rd l frm) = false:=beq_eq_false_iff_ne.mpr he
 have d3 : ((l.length : Int) == 4) = true:=beq_iff_eq.mpr (by omega)
 clear hc hw hs0 he h4 h0 h1
 have e : rdOf 0 l frm = rd l frm:=rfl
 rw [e] at ce
 clear e
 go_enter Try.func46,Try.ntmps46
 go_wp2_with (first|(go_at_call 38;refine (b_h.calls s 0 _ HC.out).mono ?_;rintro e w' ⟨rfl,nd,rfl⟩))
 go_quiet (fail)
 go_wp2_with (first|(go_at_call 47;refine (b_A.calls s _ true _ HW.out).mono ?_;rintro e w' ⟨rfl,nd2,rfl⟩))
 go_ret
 exact ⟨rfl,_,rfl⟩
def e_p (l : List Int) (frm s : Int) : Option (Int × List Int × Int) :=
 (b_h.f s).bind fun c => if c ≠ 0 then some (c,[],0) else if s = 0 then some (2,[],0) else (b_A.f s (rd l frm)).bind fun b => if b = false then some (2,[],0) else if s = rd l frm then some (181,[],0) else if l.length = 4 then some (6,[],0) else some (0,l.set frm.toNat (bits .andNot .u32 (rd l frm) s) ++ [s],(l.length : Int))
theorem b_C.any (gq gs gf gn : Nat) (l : List Int) (frm s : Int) (v : Value) (base B0 : Nat) (w : World) (err n : Int) (l' : List Int)
 (hq : w.heap[gq]? = some (.cells #[v] 26 (0,0))) (hR : Kd.R (Kd.int .u32) 31 w B0 (fun _ => True) v l)
 (hs : w.heap[gs]? = some (.cells #[.int .u32 s] 31 (0,0))) (hf : w.heap[gf]? = some (.cells #[.int .i64 frm] 3 (0,0))) (hn : w.heap[gn]? = some (.cells #[.int .i64 0] 3 (0,0)))
 (h0 : 0 ≤ frm) (h1 : frm < l.length) (hl : l.length < 35184372088832) (hB0 : ∀ g,g = gs ∨ g = gf ∨ g = gn → g < B0) (hfn : gf ≠ gn) (hB0w : B0 ≤ w.heap.size) (hbn : base ≤ gn) (hbB : base ≤ B0) (hBq : B0 ≤ gq)
 (h : e_p l frm s = some (err,l',n)) :
 Calls Try.prog 46 #[.pointer (some ⟨gq,0,none⟩),.pointer (some ⟨gs,0,none⟩),.pointer (some ⟨gf,0,none⟩),.pointer (some ⟨gn,0,none⟩)] w fun e W' => e = .returned (.int .i64 err) ∧ Below base w W' ∧ W'.heap[gn]? = some (.cells #[.int .i64 n] 3 (0,0)) ∧ (∀ k,k < w.heap.size → k ≠ gq → k ≠ gn → some k ≠ v.ownBlock → W'.heap[k]? = w.heap[k]?) ∧ (err = 0 → ∃ v',W'.heap[gq]? = some (.cells #[v'] 26 (0,0)) ∧ Kd.R (Kd.int .u32) 31 W' B0 (fun _ => True) v' l'):=by
 have still : ∀ (er : Int),er ≠ 0 → er = err → 0 = n → ∀ (e : Ending) (W' : World),(e = .returned (.int .i64 er) ∧ ∃ m,W' = w.drewN m) → e = .returned (.int .i64 err) ∧ Below base w W' ∧ W'.heap[gn]? = some (.cells #[.int .i64 n] 3 (0,0)) ∧ (∀ k,k < w.heap.size → k ≠ gq → k ≠ gn → some k ≠ v.ownBlock → W'.heap[k]? = w.heap[k]?) ∧ (err = 0 → ∃ v',W'.heap[gq]? = some (.cells #[v'] 26 (0,0)) ∧ Kd.R (Kd.int .u32) 31 W' B0 (fun _ => True) v' l'):=by
  rintro er h1 rfl rfl e W' ⟨rfl,m,rfl⟩
  exact ⟨rfl,(a_d (Below.refl _ _) m).mono (Nat.le_trans hbB hB0w),a_u hn m,fun _ _ _ _ _ => rfl,fun h => absurd h h1⟩
 unfold e_p at h
 obtain ⟨c,hc,h⟩:=Option.bind_eq_some_iff.mp h
 by_cases c0 : c = 0
 case neg =>
  rw [if_pos c0] at h
  injection h with h;injection h with e1 h;injection h with e2 e3
  exact (b_C.i_h gq gs gf gn l frm s v B0 w hq hR hs hf h0 h1 hl c hc c0).mono (fun e W' => still c c0 e1 e3 e W')
 subst c0
 rw [if_neg (by simp)] at h
 by_cases s0 : s = 0
 ·rw [if_pos s0] at h
  injection h with h;injection h with e1 h;injection h with e2 e3
  exact (b_C.empty gq gs gf gn l frm s v B0 w hq hR hs hf h0 h1 hl hc s0).mono (fun e W' => still 2 (by decide) e1 e3 e W')
 rw [if_neg s0] at h
 obtain ⟨b,hb,h⟩:=Option.bind_eq_some_iff.mp h
 cases b
 ·rw [if_pos rfl] at h
  injection h with h;injection h with e1 h;injection h with e2 e3
  exact (b_C.outside gq gs gf gn l frm s v B0 w hq hR hs hf h0 h1 hl hc s0 hb).mono (fun e W' => still 2 (by decide) e1 e3 e W')
 rw [if_neg (by simp)] at h
 by_cases so : s = rd l frm
 ·rw [if_pos so] at h
  injection h with h;injection h with e1 h;injection h with e2 e3
  exact (b_C.all gq gs gf gn l frm s v B0 w hq hR hs hf h0 h1 hl hc s0 hb so).mono (fun e W' => still 181 (by decide) e1 e3 e W')
 rw [if_neg so] at h
 by_cases l4 : l.length = 4
 ·rw [if_pos l4] at h
  injection h with h;injection h with e1 h;injection h with e2 e3
  exact (b_C.full gq gs gf gn l frm s v B0 w hq hR hs hf h0 h1 hl hc s0 hb so l4).mono (fun e W' => still 6 (by decide) e1 e3 e W')
 rw [if_neg l4] at h
 injection h with h;injection h with e1 h;injection h with e2 e3
 subst e1 e2 e3
 refine (b_C.ok gq gs gf gn l frm s v base B0 w hq hR hs hf hn h0 h1 hl hB0 hfn hB0w hbn hbB hBq hc s0 hb so l4).mono ?_
 rintro e W' ⟨rfl,a1,a2,a3,a4⟩
 exact ⟨rfl,a1,a2,a3,fun _ => a4⟩
set_option maxHeartbeats 4000000 in
theorem b_u.does (k : Nat) (ad : Addr) (c0 : Nat) (l : List Int) (frm s err n : Int) (l' : List Int) (w : World) (hr : Kd.C (Kd.int .u32) w (some ad) l.length l) (hc : l.length ≤ c0) (hl : l.length < 35184372088832)
 (hec : a_s.f k l = some 0) (hp : b_l.f l [frm] = some true) (h0 : 0 ≤ frm) (h1 : frm < l.length) (hs : e_p l frm s = some (err,l',n)) (L : List Int) (hL : L = if err = 0 then l' else []) :
 Calls Try.prog 29 #[.agg #[.slice (some ad) l.length c0],.int .i64 frm,.int .u32 s] w fun e w' => ∃ v0_ : Value,e = .returned (.tuple #[.agg #[v0_],.int .i64 n,.int .i64 err]) ∧ Kd.R (Kd.int .u32) 31 w' w.heap.size (fun _ => True) v0_ L ∧ Below w.heap.size w w':=by
 have HLL:=a_a.mk hL
 clear hL
 have HR:=a_a.mk hr
 have HC:=a_a.mk hc
 have HE:=a_a.mk hec
 have HP:=a_a.mk hp
 have HL:=a_a.mk hl
 have HS:=a_a.mk hs
 have H0:=a_a.mk h0
 have H1:=a_a.mk h1
 have EG:=a_a.mk (d_p Try.func46 (by kernel_rfl) rfl)
 clear hr hc hec hp hl hs h0 h1
 have HB:=a_a.mk (Below.refl w.heap.size w)
 go_enter Try.func29,Try.ntmps29
 go_wp2_with (first
  | ((with_reducible refine a_E (N:=3) rfl ?_);refine a_D ?hg (N:=3) ?hd (cs:=#[.slice (some ad) l.length c0]) (t:=26) ?hr ?_;(case hd => rfl);(case hg => rfl);(case hr => first|(go_simp;done)|(go_simp;rfl));intro gbp hg wbp hbox hb;have m0_:=a_a.mk (a_i HB.out hb);have m1_:=a_a.mk (hbox);have m2_:=a_a.mk ((by rw [hg];exact HB.out.size : w.heap.size ≤ gbp));(try clear HB);have HB:=m0_;have BKp:=m1_;have GEp:=m2_;clear m0_ m1_ m2_ hb hbox hg)
  | ((with_reducible refine a_E (N:=4) rfl ?_);refine a_D ?hg (N:=4) ?hd (cs:=#[.int .i64 frm]) (t:=3) ?hr ?_;(case hd => rfl);(case hg => rfl);(case hr => first|(go_simp;done)|(go_simp;rfl));intro gbf hg wbf hbox hb;have m0_:=a_a.mk (a_e (g:=gbp) (o:=.cells #[.slice (some ad) l.length c0] 26 (0,0)) BKp.out hb);have m1_:=a_a.mk (a_i HB.out hb);have m2_:=a_a.mk (hbox);have m3_:=a_a.mk ((by rw [hg];exact HB.out.size : w.heap.size ≤ gbf));have m4_:=a_a.mk ((by rw [hg];exact Nat.ne_of_lt (a_p BKp.out) : gbp ≠ gbf));have m5_:=a_a.mk ((by rw [hg];exact Nat.ne_of_gt (a_p BKp.out) : gbf ≠ gbp));(try clear BKp);(try clear HB);have BKp:=m0_;have HB:=m1_;have BKf:=m2_;have GEf:=m3_;have NBp_f:=m4_;have NBf_p:=m5_;clear m0_ m1_ m2_ m3_ m4_ m5_ hb hbox hg)
  | ((with_reducible refine a_E (N:=5) rfl ?_);refine a_D ?hg (N:=5) ?hd (cs:=#[.int .u32 s]) (t:=31) ?hr ?_;(case hd => rfl);(case hg => rfl);(case hr => first|(go_simp;done)|(go_simp;rfl));intro gbs hg wbs hbox hb;have m0_:=a_a.mk (a_e (g:=gbp) (o:=.cells #[.slice (some ad) l.length c0] 26 (0,0)) BKp.out hb);have m1_:=a_a.mk (a_e (g:=gbf) (o:=.cells #[.int .i64 frm] 3 (0,0)) BKf.out hb);have m2_:=a_a.mk (a_i HB.out hb);have m3_:=a_a.mk (hbox);have m4_:=a_a.mk ((by rw [hg];exact HB.out.size : w.heap.size ≤ gbs));have m5_:=a_a.mk ((by rw [hg];exact Nat.ne_of_lt (a_p BKp.out) : gbp ≠ gbs));have m6_:=a_a.mk ((by rw [hg];exact Nat.ne_of_gt (a_p BKp.out) : gbs ≠ gbp));have m7_:=a_a.mk ((by rw [hg];exact Nat.ne_of_lt (a_p BKf.out) : gbf ≠ gbs));have m8_:=a_a.mk ((by rw [hg];exact Nat.ne_of_gt (a_p BKf.out) : gbs ≠ gbf));(try clear BKp);(try clear BKf);(try clear HB);have BKp:=m0_;have BKf:=m1_;have HB:=m2_;have BKs:=m3_;have GEs:=m4_;have NBp_s:=m5_;have NBs_p:=m6_;have NBf_s:=m7_;have NBs_f:=m8_;clear m0_ m1_ m2_ m3_ m4_ m5_ m6_ m7_ m8_ hb hbox hg)
  | ((with_reducible refine a_E (N:=6) rfl ?_);refine a_D ?hg (N:=6) ?hd (cs:=#[.slice none 0 0]) (t:=26) ?hr ?_;(case hd => rfl);(case hg => rfl);(case hr => first|(go_simp;done)|(go_simp;rfl));intro gbq hg wbq hbox hb;have m0_:=a_a.mk (a_e (g:=gbp) (o:=.cells #[.slice (some ad) l.length c0] 26 (0,0)) BKp.out hb);have m1_:=a_a.mk (a_e (g:=gbf) (o:=.cells #[.int .i64 frm] 3 (0,0)) BKf.out hb);have m2_:=a_a.mk (a_e (g:=gbs) (o:=.cells #[.int .u32 s] 31 (0,0)) BKs.out hb);have m3_:=a_a.mk (a_i HB.out hb);have m4_:=a_a.mk (hbox);have m5_:=a_a.mk ((by rw [hg];exact HB.out.size : w.heap.size ≤ gbq));have m6_:=a_a.mk ((by rw [hg];exact Nat.ne_of_lt (a_p BKp.out) : gbp ≠ gbq));have m7_:=a_a.mk ((by rw [hg];exact Nat.ne_of_gt (a_p BKp.out) : gbq ≠ gbp));have m8_:=a_a.mk ((by rw [hg];exact Nat.ne_of_lt (a_p BKf.out) : gbf ≠ gbq));have m9_:=a_a.mk ((by rw [hg];exact Nat.ne_of_gt (a_p BKf.out) : gbq ≠ gbf));have m10_:=a_a.mk ((by rw [hg];exact Nat.ne_of_lt (a_p BKs.out) : gbs ≠ gbq));have m11_:=a_a.mk ((by rw [hg];exact Nat.ne_of_gt (a_p BKs.out) : gbq ≠ gbs));(try clear BKp);(try clear BKf);(try clear BKs);(try clear HB);have BKp:=m0_;have BKf:=m1_;have BKs:=m2_;have HB:=m3_;have BKq:=m4_;have GEq:=m5_;have NBp_q:=m6_;have NBq_p:=m7_;have NBf_q:=m8_;have NBq_f:=m9_;have NBs_q:=m10_;have NBq_s:=m11_;clear m0_ m1_ m2_ m3_ m4_ m5_ m6_ m7_ m8_ m9_ m10_ m11_ hb hbox hg)
  | ((with_reducible refine a_E (N:=9) rfl ?_);refine a_D ?hg (N:=9) ?hd (cs:=#[.int .i64 0]) (t:=3) ?hr ?_;(case hd => rfl);(case hg => rfl);(case hr => first|(go_simp;done)|(go_simp;rfl));intro gbn hg wbn hbox hb;have m0_:=a_a.mk (a_e (g:=gbp) (o:=.cells #[.slice (some ad) l.length c0] 26 (0,0)) BKp.out hb);have m1_:=a_a.mk (a_e (g:=gbf) (o:=.cells #[.int .i64 frm] 3 (0,0)) BKf.out hb);have m2_:=a_a.mk (a_e (g:=gbs) (o:=.cells #[.int .u32 s] 31 (0,0)) BKs.out hb);have m3_:=a_a.mk (a_e (g:=gbq) (o:=.cells #[.slice none 0 0] 26 (0,0)) BKq.out hb);have m4_:=a_a.mk (a_i HB.out hb);have m5_:=a_a.mk (hbox);have m6_:=a_a.mk ((by rw [hg];exact HB.out.size : w.heap.size ≤ gbn));have m7_:=a_a.mk ((by rw [hg];exact Nat.ne_of_lt (a_p BKp.out) : gbp ≠ gbn));have m8_:=a_a.mk ((by rw [hg];exact Nat.ne_of_gt (a_p BKp.out) : gbn ≠ gbp));have m9_:=a_a.mk ((by rw [hg];exact Nat.ne_of_lt (a_p BKf.out) : gbf ≠ gbn));have m10_:=a_a.mk ((by rw [hg];exact Nat.ne_of_gt (a_p BKf.out) : gbn ≠ gbf));have m11_:=a_a.mk ((by rw [hg];exact Nat.ne_of_lt (a_p BKs.out) : gbs ≠ gbn));have m12_:=a_a.mk ((by rw [hg];exact Nat.ne_of_gt (a_p BKs.out) : gbn ≠ gbs));have m13_:=a_a.mk ((by rw [hg];exact Nat.ne_of_lt (a_p BKq.out) : gbq ≠ gbn));have m14_:=a_a.mk ((by rw [hg];exact Nat.ne_of_gt (a_p BKq.out) : gbn ≠ gbq));(try clear BKp);(try clear BKf);(try clear BKs);(try clear BKq);(try clear HB);have BKp:=m0_;have BKf:=m1_;have BKs:=m2_;have BKq:=m3_;have HB:=m4_;have BKn:=m5_;have GEn:=m6_;have NBp_n:=m7_;have NBn_p:=m8_;have NBf_n:=m9_;have NBn_f:=m10_;have NBs_n:=m11_;have NBn_s:=m12_;have NBq_n:=m13_;have NBn_q:=m14_;clear m0_ m1_ m2_ m3_ m4_ m5_ m6_ m7_ m8_ m9_ m10_ m11_ m12_ m13_ m14_ hb hbox hg;have hcz1_n_0 : World.cell? _ ⟨gbn,0,none⟩ = some (.int .i64 0):=(a_j BKn.out 0).trans rfl;have hfz1_n:=a_k BKn.out 0)
  | ((with_reducible refine b_J (t:=3) (p:=9) rfl ?_);refine b_E (t:=3) (p:=9) (v:=?vo_ws2) (w1:=(wbn.setCell ⟨gbn,0,none⟩ (.int .i64 0))) ?hg ?ho ?hn ?hr ?_;(case ho => rfl);(case hg => rfl);(case hn => rfl);(case hr => first|(go_simp;done)|(go_simp;rfl));intro ws2 hw;have m0_:=a_a.mk ((show ws2.heap[gbp]? = some (.cells #[.slice (some ad) l.length c0] 26 (0,0)) by rw [hw];exact a_Q BKp.out (p:=⟨gbn,0,none⟩) NBp_n.out _));have m1_:=a_a.mk ((show ws2.heap[gbf]? = some (.cells #[.int .i64 frm] 3 (0,0)) by rw [hw];exact a_Q BKf.out (p:=⟨gbn,0,none⟩) NBf_n.out _));have m2_:=a_a.mk ((show ws2.heap[gbs]? = some (.cells #[.int .u32 s] 31 (0,0)) by rw [hw];exact a_Q BKs.out (p:=⟨gbn,0,none⟩) NBs_n.out _));have m3_:=a_a.mk ((show ws2.heap[gbq]? = some (.cells #[.slice none 0 0] 26 (0,0)) by rw [hw];exact a_Q BKq.out (p:=⟨gbn,0,none⟩) NBq_n.out _));have m4_:=a_a.mk ((show ws2.heap[gbn]? = some (.cells #[.int .i64 0] 3 (0,0)) by rw [hw];exact b_q (cs:=#[.int .i64 0]) BKn.out 0 _ rfl));have m5_:=a_a.mk ((show Below w.heap.size w ws2 by rw [hw];exact a_c HB.out GEn.out));clear hw BKp BKf BKs BKq BKn HB;have BKp:=m0_;have BKf:=m1_;have BKs:=m2_;have BKq:=m3_;have BKn:=m4_;have HB:=m5_;clear m0_ m1_ m2_ m3_ m4_ m5_;have hcz3_p_0 : World.cell? _ ⟨gbp,0,none⟩ = some (.slice (some ad) l.length c0):=(a_j BKp.out 0).trans rfl;have hfz3_p:=a_k BKp.out 0;have hcz3_f_0 : World.cell? _ ⟨gbf,0,none⟩ = some (.int .i64 frm):=(a_j BKf.out 0).trans rfl;have hfz3_f:=a_k BKf.out 0)
  | ((with_reducible refine a_E (N:=16) rfl ?_);refine Kd.d_N (Kd.int .i64) _ 3 ?hg (N:=16) ?hd (xs:=([frm] : List Int)) (inner:=[.int .i64 frm]) (ok:=fun _ => True) (okp:=fun _ => True) ?hr ?hp (fun _ hk => hk) trivial (Below.refl _ _) (Nat.le_refl _) (by simp) ?_;(case hd => rfl);(case hg => rfl);(case hr => first|(go_simp;done)|(go_simp;rfl));(case hp => exact (Reps.one (show Kd.M (Kd.int .i64) _ _ _ frm [.int .i64 frm] from rfl) (Reps.none _ _)));intro vns wl4 ho_ hb hg_ hnew_;clear hg_ hnew_;have m0_:=a_a.mk (a_e (g:=gbp) (o:=.cells #[.slice (some ad) l.length c0] 26 (0,0)) BKp.out hb);have m1_:=a_a.mk (a_e (g:=gbf) (o:=.cells #[.int .i64 frm] 3 (0,0)) BKf.out hb);have m2_:=a_a.mk (a_e (g:=gbs) (o:=.cells #[.int .u32 s] 31 (0,0)) BKs.out hb);have m3_:=a_a.mk (a_e (g:=gbq) (o:=.cells #[.slice none 0 0] 26 (0,0)) BKq.out hb);have m4_:=a_a.mk (a_e (g:=gbn) (o:=.cells #[.int .i64 0] 3 (0,0)) BKn.out hb);have m5_:=a_a.mk (a_i HB.out hb);have m6_:=a_a.mk (Kd.b_y ho_ HB.out.size);(try clear BKp);(try clear BKf);(try clear BKs);(try clear BKq);(try clear BKn);(try clear HB);have BKp:=m0_;have BKf:=m1_;have BKs:=m2_;have BKq:=m3_;have BKn:=m4_;have HB:=m5_;have HOns:=m6_;clear m0_ m1_ m2_ m3_ m4_ m5_ m6_ hb ho_;obtain ⟨Ans,cns,ens⟩:=Kd.b_D HOns.out;subst ens)
  | (go_at_call 45;go_must (refine (c_e.does 46 #[.pointer (some ⟨gbs,0,none⟩),.pointer (some ⟨gbf,0,none⟩),.pointer (some ⟨gbn,0,none⟩)] EG.out w.heap.size (fun k_ => k_ = gbn) k ad c0 l _ _ [frm] _ ?s1 HC.out ?s2 ?s3 HB.out.size ?s4 HE.out HP.out HL.out err l' (fun W_ => W_.heap[gbn]? = some (.cells #[.int .i64 n] 3 (0,0))) ?s5 ?s6).mono ?_);go_must ((case s1 => exact Kd.a_8 HR.out HB.out));go_must ((case s2 => exact (Kd.a_r HOns.out).2.2));go_must ((case s3 => exact (Kd.a_r HOns.out).2.1));go_must ((case s4 => exact fun k_ e_ => e_ ▸ a_p BKn.out));go_must ((case s5 => exact fun W_ W2_ h1_ h2_ => (h2_ gbn rfl).trans h1_));go_must ((case s6 => exact fun W_ gq_ v_ b_ q_ bq_ r_ => b_C.any gq_ gbs gbf gbn l frm s v_ w.heap.size _ W_ err n l' bq_ r_ (a_e BKs.out b_) (a_e BKf.out b_) (a_e BKn.out b_) H0.out H1.out HL.out (fun g_ h_ => by rcases h_ with rfl|rfl|rfl;exact a_p BKs.out;exact a_p BKf.out;exact a_p BKn.out) NBf_n.out b_.size GEn.out HB.out.size q_ HS.out));go_must (rintro e wr ⟨v,rfl,ho_,hbl_,hj_,hk_⟩);go_must (rw [← HLL.out] at ho_);go_must (clear HOns);go_must (clear hcz3_p_0 hfz3_p hcz3_f_0 hfz3_f);go_must (have m0_:=a_a.mk ((hk_ gbp (a_p BKp.out) NBp_n.out).trans BKp.out));go_must (have m1_:=a_a.mk ((hk_ gbf (a_p BKf.out) NBf_n.out).trans BKf.out));go_must (have m2_:=a_a.mk ((hk_ gbs (a_p BKs.out) NBs_n.out).trans BKs.out));go_must (have m3_:=a_a.mk ((hk_ gbq (a_p BKq.out) NBq_n.out).trans BKq.out));go_must (have m4_:=a_a.mk (hj_));go_must (have m5_:=a_a.mk (HB.out.trans hbl_));go_must (have m6_:=a_a.mk (Kd.b_y ho_ HB.out.size));go_must ((try clear BKp));go_must ((try clear BKf));go_must ((try clear BKs));go_must ((try clear BKq));go_must ((try clear BKn));go_must ((try clear HB));go_must (have BKp:=m0_);go_must (have BKf:=m1_);go_must (have BKs:=m2_);go_must (have BKq:=m3_);go_must (have BKn:=m4_);go_must (have HB:=m5_);go_must (have HOv:=m6_);go_must (clear m0_ m1_ m2_ m3_ m4_ m5_ m6_);go_must (clear ho_ hbl_ hj_ hk_);go_must (obtain ⟨Av,cv,ev⟩:=Kd.b_D HOv.out);go_must (subst ev))
  | ((with_reducible refine a_E (N:=10) rfl ?_);refine a_D ?hg (N:=10) ?hd (cs:=#[.slice none 0 0]) (t:=26) ?hr ?_;(case hd => rfl);(case hg => rfl);(case hr => first|(go_simp;done)|(go_simp;rfl));intro gbt hg wbt hbox hb;have m0_:=a_a.mk (a_e (g:=gbp) (o:=.cells #[.slice (some ad) l.length c0] 26 (0,0)) BKp.out hb);have m1_:=a_a.mk (a_e (g:=gbf) (o:=.cells #[.int .i64 frm] 3 (0,0)) BKf.out hb);have m2_:=a_a.mk (a_e (g:=gbs) (o:=.cells #[.int .u32 s] 31 (0,0)) BKs.out hb);have m3_:=a_a.mk (a_e (g:=gbq) (o:=.cells #[.slice none 0 0] 26 (0,0)) BKq.out hb);have m4_:=a_a.mk (a_e (g:=gbn) (o:=.cells #[.int .i64 n] 3 (0,0)) BKn.out hb);have m5_:=a_a.mk (Kd.a_y HOv.out hb);have m6_:=a_a.mk (a_i HB.out hb);have m7_:=a_a.mk (hbox);have m8_:=a_a.mk ((by rw [hg];exact HB.out.size : w.heap.size ≤ gbt));have m9_:=a_a.mk ((by rw [hg];exact Nat.ne_of_lt (a_p BKp.out) : gbp ≠ gbt));have m10_:=a_a.mk ((by rw [hg];exact Nat.ne_of_gt (a_p BKp.out) : gbt ≠ gbp));have m11_:=a_a.mk ((by rw [hg];exact Nat.ne_of_lt (a_p BKf.out) : gbf ≠ gbt));have m12_:=a_a.mk ((by rw [hg];exact Nat.ne_of_gt (a_p BKf.out) : gbt ≠ gbf));have m13_:=a_a.mk ((by rw [hg];exact Nat.ne_of_lt (a_p BKs.out) : gbs ≠ gbt));have m14_:=a_a.mk ((by rw [hg];exact Nat.ne_of_gt (a_p BKs.out) : gbt ≠ gbs));have m15_:=a_a.mk ((by rw [hg];exact Nat.ne_of_lt (a_p BKq.out) : gbq ≠ gbt));have m16_:=a_a.mk ((by rw [hg];exact Nat.ne_of_gt (a_p BKq.out) : gbt ≠ gbq));have m17_:=a_a.mk ((by rw [hg];exact Nat.ne_of_lt (a_p BKn.out) : gbn ≠ gbt));have m18_:=a_a.mk ((by rw [hg];exact Nat.ne_of_gt (a_p BKn.out) : gbt ≠ gbn));(try clear BKp);(try clear BKf);(try clear BKs);(try clear BKq);(try clear BKn);(try clear HOv);(try clear HB);have BKp:=m0_;have BKf:=m1_;have BKs:=m2_;have BKq:=m3_;have BKn:=m4_;have HOv:=m5_;have HB:=m6_;have BKt:=m7_;have GEt:=m8_;have NBp_t:=m9_;have NBt_p:=m10_;have NBf_t:=m11_;have NBt_f:=m12_;have NBs_t:=m13_;have NBt_s:=m14_;have NBq_t:=m15_;have NBt_q:=m16_;have NBn_t:=m17_;have NBt_n:=m18_;clear m0_ m1_ m2_ m3_ m4_ m5_ m6_ m7_ m8_ m9_ m10_ m11_ m12_ m13_ m14_ m15_ m16_ m17_ m18_ hb hbox hg;have hcz5_t_0 : World.cell? _ ⟨gbt,0,none⟩ = some (.slice none 0 0):=(a_j BKt.out 0).trans rfl;have hfz5_t:=a_k BKt.out 0)
  | ((with_reducible refine b_J (t:=26) (p:=10) rfl ?_);refine b_E (t:=26) (p:=10) (v:=?vo_ws6) (w1:=(wbt.setCell ⟨gbt,0,none⟩ (.slice Av (L).length cv))) ?hg ?ho ?hn ?hr ?_;(case ho => rfl);(case hg => rfl);(case hn => rfl);(case hr => first|(go_simp;done)|(go_simp;rfl));intro ws6 hw;have m0_:=a_a.mk ((show ws6.heap[gbp]? = some (.cells #[.slice (some ad) l.length c0] 26 (0,0)) by rw [hw];exact a_Q BKp.out (p:=⟨gbt,0,none⟩) NBp_t.out _));have m1_:=a_a.mk ((show ws6.heap[gbf]? = some (.cells #[.int .i64 frm] 3 (0,0)) by rw [hw];exact a_Q BKf.out (p:=⟨gbt,0,none⟩) NBf_t.out _));have m2_:=a_a.mk ((show ws6.heap[gbs]? = some (.cells #[.int .u32 s] 31 (0,0)) by rw [hw];exact a_Q BKs.out (p:=⟨gbt,0,none⟩) NBs_t.out _));have m3_:=a_a.mk ((show ws6.heap[gbq]? = some (.cells #[.slice none 0 0] 26 (0,0)) by rw [hw];exact a_Q BKq.out (p:=⟨gbt,0,none⟩) NBq_t.out _));have m4_:=a_a.mk ((show ws6.heap[gbn]? = some (.cells #[.int .i64 n] 3 (0,0)) by rw [hw];exact a_Q BKn.out (p:=⟨gbt,0,none⟩) NBn_t.out _));have m5_:=a_a.mk ((show ws6.heap[gbt]? = some (.cells #[.slice Av (L).length cv] 26 (0,0)) by rw [hw];exact b_q (cs:=#[.slice none 0 0]) BKt.out 0 _ rfl));have m6_:=a_a.mk ((show Kd.R (Kd.int .u32) 31 ws6 w.heap.size (fun _ => True) (.slice Av (L).length cv) L by rw [hw];exact Kd.c_J HOv.out BKt.out (by decide) 0 _));have m7_:=a_a.mk ((show Below w.heap.size w ws6 by rw [hw];exact a_c HB.out GEt.out));clear hw BKp BKf BKs BKq BKn BKt HOv HB;have BKp:=m0_;have BKf:=m1_;have BKs:=m2_;have BKq:=m3_;have BKn:=m4_;have BKt:=m5_;have HOv:=m6_;have HB:=m7_;clear m0_ m1_ m2_ m3_ m4_ m5_ m6_ m7_;have hcz7_t_0 : World.cell? _ ⟨gbt,0,none⟩ = some (.slice Av (L).length cv):=(a_j BKt.out 0).trans rfl;have hfz7_t:=a_k BKt.out 0;have hcz7_n_0 : World.cell? _ ⟨gbn,0,none⟩ = some (.int .i64 n):=(a_j BKn.out 0).trans rfl;have hfz7_n:=a_k BKn.out 0;have hcz7_q_0 : World.cell? _ ⟨gbq,0,none⟩ = some (.slice none 0 0):=(a_j BKq.out 0).trans rfl;have hfz7_q:=a_k BKq.out 0;have hne1_:=NBt_q.out;have hne2_:=NBq_t.out;have hne3_:=NBn_q.out;have hne4_:=NBq_n.out))
 go_region
 go_wp2
 refine bodyPost_ret (c_c rfl _ _ gbq 26 #[.slice Av (L).length cv] (0,0) _ rfl (b_q (cs:=#[.slice none 0 0]) (a_t BKq.out) 0 _ rfl) Try.underlying26 rfl (by kernel_rfl)) rfl ?_
 exact ⟨_,rfl,Kd.c_J (Kd.a_0 HOv.out) (a_t BKq.out) (by decide) 0 _,(HB.out.drew).setCell GEq.out _⟩
set_option maxHeartbeats 4000000 in
theorem b_u.bad (k : Nat) (A0 : Option Addr) (c0 : Nat) (l : List Int) (frm s : Int) (w : World) (hr : Kd.C (Kd.int .u32) w A0 l.length l) (hc : l.length ≤ c0) (e1 : Int) (hec : a_s.f k l = some e1) (hp : e1 ≠ 0) :
 Calls Try.prog 29 #[.agg #[.slice A0 l.length c0],.int .i64 frm,.int .u32 s] w fun e w' => ∃ v0_ : Value,e = .returned (.tuple #[.agg #[v0_],.int .i64 0,.int .i64 e1]) ∧ Kd.R (Kd.int .u32) 31 w' w.heap.size (fun _ => True) v0_ [] ∧ Below w.heap.size w w':=by
 have HR:=a_a.mk hr
 have HC:=a_a.mk hc
 have HE:=a_a.mk hec
 have HP:=a_a.mk hp
 clear hr hc hec hp
 have HB:=a_a.mk (Below.refl w.heap.size w)
 go_enter Try.func29,Try.ntmps29
 go_wp2_with (first
  | ((with_reducible refine a_E (N:=3) rfl ?_);refine a_D ?hg (N:=3) ?hd (cs:=#[.slice A0 l.length c0]) (t:=26) ?hr ?_;(case hd => rfl);(case hg => rfl);(case hr => first|(go_simp;done)|(go_simp;rfl));intro gbp hg wbp hbox hb;have m0_:=a_a.mk (a_i HB.out hb);have m1_:=a_a.mk (hbox);have m2_:=a_a.mk ((by rw [hg];exact HB.out.size : w.heap.size ≤ gbp));(try clear HB);have HB:=m0_;have BKp:=m1_;have GEp:=m2_;clear m0_ m1_ m2_ hb hbox hg)
  | ((with_reducible refine a_E (N:=4) rfl ?_);refine a_D ?hg (N:=4) ?hd (cs:=#[.int .i64 frm]) (t:=3) ?hr ?_;(case hd => rfl);(case hg => rfl);(case hr => first|(go_simp;done)|(go_simp;rfl));intro gbf hg wbf hbox hb;have m0_:=a_a.mk (a_e (g:=gbp) (o:=.cells #[.slice A0 l.length c0] 26 (0,0)) BKp.out hb);have m1_:=a_a.mk (a_i HB.out hb);have m2_:=a_a.mk (hbox);have m3_:=a_a.mk ((by rw [hg];exact HB.out.size : w.heap.size ≤ gbf));have m4_:=a_a.mk ((by rw [hg];exact Nat.ne_of_lt (a_p BKp.out) : gbp ≠ gbf));have m5_:=a_a.mk ((by rw [hg];exact Nat.ne_of_gt (a_p BKp.out) : gbf ≠ gbp));(try clear BKp);(try clear HB);have BKp:=m0_;have HB:=m1_;have BKf:=m2_;have GEf:=m3_;have NBp_f:=m4_;have NBf_p:=m5_;clear m0_ m1_ m2_ m3_ m4_ m5_ hb hbox hg)
  | ((with_reducible refine a_E (N:=5) rfl ?_);refine a_D ?hg (N:=5) ?hd (cs:=#[.int .u32 s]) (t:=31) ?hr ?_;(case hd => rfl);(case hg => rfl);(case hr => first|(go_simp;done)|(go_simp;rfl));intro gbs hg wbs hbox hb;have m0_:=a_a.mk (a_e (g:=gbp) (o:=.cells #[.slice A0 l.length c0] 26 (0,0)) BKp.out hb);have m1_:=a_a.mk (a_e (g:=gbf) (o:=.cells #[.int .i64 frm] 3 (0,0)) BKf.out hb);have m2_:=a_a.mk (a_i HB.out hb);have m3_:=a_a.mk (hbox);have m4_:=a_a.mk ((by rw [hg];exact HB.out.size : w.heap.size ≤ gbs));have m5_:=a_a.mk ((by rw [hg];exact Nat.ne_of_lt (a_p BKp.out) : gbp ≠ gbs));have m6_:=a_a.mk ((by rw [hg];exact Nat.ne_of_gt (a_p BKp.out) : gbs ≠ gbp));have m7_:=a_a.mk ((by rw [hg];exact Nat.ne_of_lt (a_p BKf.out) : gbf ≠ gbs));have m8_:=a_a.mk ((by rw [hg];exact Nat.ne_of_gt (a_p BKf.out) : gbs ≠ gbf));(try clear BKp);(try clear BKf);(try clear HB);have BKp:=m0_;have BKf:=m1_;have HB:=m2_;have BKs:=m3_;have GEs:=m4_;have NBp_s:=m5_;have NBs_p:=m6_;have NBf_s:=m7_;have NBs_f:=m8_;clear m0_ m1_ m2_ m3_ m4_ m5_ m6_ m7_ m8_ hb hbox hg)
  | ((with_reducible refine a_E (N:=6) rfl ?_);refine a_D ?hg (N:=6) ?hd (cs:=#[.slice none 0 0]) (t:=26) ?hr ?_;(case hd => rfl);(case hg => rfl);(case hr => first|(go_simp;done)|(go_simp;rfl));intro gbq hg wbq hbox hb;have m0_:=a_a.mk (a_e (g:=gbp) (o:=.cells #[.slice A0 l.length c0] 26 (0,0)) BKp.out hb);have m1_:=a_a.mk (a_e (g:=gbf) (o:=.cells #[.int .i64 frm] 3 (0,0)) BKf.out hb);have m2_:=a_a.mk (a_e (g:=gbs) (o:=.cells #[.int .u32 s] 31 (0,0)) BKs.out hb);have m3_:=a_a.mk (a_i HB.out hb);have m4_:=a_a.mk (hbox);have m5_:=a_a.mk ((by rw [hg];exact HB.out.size : w.heap.size ≤ gbq));have m6_:=a_a.mk ((by rw [hg];exact Nat.ne_of_lt (a_p BKp.out) : gbp ≠ gbq));have m7_:=a_a.mk ((by rw [hg];exact Nat.ne_of_gt (a_p BKp.out) : gbq ≠ gbp));have m8_:=a_a.mk ((by rw [hg];exact Nat.ne_of_lt (a_p BKf.out) : gbf ≠ gbq));have m9_:=a_a.mk ((by rw [hg];exact Nat.ne_of_gt (a_p BKf.out) : gbq ≠ gbf));have m10_:=a_a.mk ((by rw [hg];exact Nat.ne_of_lt (a_p BKs.out) : gbs ≠ gbq));have m11_:=a_a.mk ((by rw [hg];exact Nat.ne_of_gt (a_p BKs.out) : gbq ≠ gbs));(try clear BKp);(try clear BKf);(try clear BKs);(try clear HB);have BKp:=m0_;have BKf:=m1_;have BKs:=m2_;have HB:=m3_;have BKq:=m4_;have GEq:=m5_;have NBp_q:=m6_;have NBq_p:=m7_;have NBf_q:=m8_;have NBq_f:=m9_;have NBs_q:=m10_;have NBq_s:=m11_;clear m0_ m1_ m2_ m3_ m4_ m5_ m6_ m7_ m8_ m9_ m10_ m11_ hb hbox hg)
  | ((with_reducible refine a_E (N:=9) rfl ?_);refine a_D ?hg (N:=9) ?hd (cs:=#[.int .i64 0]) (t:=3) ?hr ?_;(case hd => rfl);(case hg => rfl);(case hr => first|(go_simp;done)|(go_simp;rfl));intro gbn hg wbn hbox hb;have m0_:=a_a.mk (a_e (g:=gbp) (o:=.cells #[.slice A0 l.length c0] 26 (0,0)) BKp.out hb);have m1_:=a_a.mk (a_e (g:=gbf) (o:=.cells #[.int .i64 frm] 3 (0,0)) BKf.out hb);have m2_:=a_a.mk (a_e (g:=gbs) (o:=.cells #[.int .u32 s] 31 (0,0)) BKs.out hb);have m3_:=a_a.mk (a_e (g:=gbq) (o:=.cells #[.slice none 0 0] 26 (0,0)) BKq.out hb);have m4_:=a_a.mk (a_i HB.out hb);have m5_:=a_a.mk (hbox);have m6_:=a_a.mk ((by rw [hg];exact HB.out.size : w.heap.size ≤ gbn));have m7_:=a_a.mk ((by rw [hg];exact Nat.ne_of_lt (a_p BKp.out) : gbp ≠ gbn));have m8_:=a_a.mk ((by rw [hg];exact Nat.ne_of_gt (a_p BKp.out) : gbn ≠ gbp));have m9_:=a_a.mk ((by rw [hg];exact Nat.ne_of_lt (a_p BKf.out) : gbf ≠ gbn));have m10_:=a_a.mk ((by rw [hg];exact Nat.ne_of_gt (a_p BKf.out) : gbn ≠ gbf));have m11_:=a_a.mk ((by rw [hg];exact Nat.ne_of_lt (a_p BKs.out) : gbs ≠ gbn));have m12_:=a_a.mk ((by rw [hg];exact Nat.ne_of_gt (a_p BKs.out) : gbn ≠ gbs));have m13_:=a_a.mk ((by rw [hg];exact Nat.ne_of_lt (a_p BKq.out) : gbq ≠ gbn));have m14_:=a_a.mk ((by rw [hg];exact Nat.ne_of_gt (a_p BKq.out) : gbn ≠ gbq));(try clear BKp);(try clear BKf);(try clear BKs);(try clear BKq);(try clear HB);have BKp:=m0_;have BKf:=m1_;have BKs:=m2_;have BKq:=m3_;have HB:=m4_;have BKn:=m5_;have GEn:=m6_;have NBp_n:=m7_;have NBn_p:=m8_;have NBf_n:=m9_;have NBn_f:=m10_;have NBs_n:=m11_;have NBn_s:=m12_;have NBq_n:=m13_;have NBn_q:=m14_;clear m0_ m1_ m2_ m3_ m4_ m5_ m6_ m7_ m8_ m9_ m10_ m11_ m12_ m13_ m14_ hb hbox hg;have hcz1_n_0 : World.cell? _ ⟨gbn,0,none⟩ = some (.int .i64 0):=(a_j BKn.out 0).trans rfl;have hfz1_n:=a_k BKn.out 0)
  | ((with_reducible refine b_J (t:=3) (p:=9) rfl ?_);refine b_E (t:=3) (p:=9) (v:=?vo_ws2) (w1:=(wbn.setCell ⟨gbn,0,none⟩ (.int .i64 0))) ?hg ?ho ?hn ?hr ?_;(case ho => rfl);(case hg => rfl);(case hn => rfl);(case hr => first|(go_simp;done)|(go_simp;rfl));intro ws2 hw;have m0_:=a_a.mk ((show ws2.heap[gbp]? = some (.cells #[.slice A0 l.length c0] 26 (0,0)) by rw [hw];exact a_Q BKp.out (p:=⟨gbn,0,none⟩) NBp_n.out _));have m1_:=a_a.mk ((show ws2.heap[gbf]? = some (.cells #[.int .i64 frm] 3 (0,0)) by rw [hw];exact a_Q BKf.out (p:=⟨gbn,0,none⟩) NBf_n.out _));have m2_:=a_a.mk ((show ws2.heap[gbs]? = some (.cells #[.int .u32 s] 31 (0,0)) by rw [hw];exact a_Q BKs.out (p:=⟨gbn,0,none⟩) NBs_n.out _));have m3_:=a_a.mk ((show ws2.heap[gbq]? = some (.cells #[.slice none 0 0] 26 (0,0)) by rw [hw];exact a_Q BKq.out (p:=⟨gbn,0,none⟩) NBq_n.out _));have m4_:=a_a.mk ((show ws2.heap[gbn]? = some (.cells #[.int .i64 0] 3 (0,0)) by rw [hw];exact b_q (cs:=#[.int .i64 0]) BKn.out 0 _ rfl));have m5_:=a_a.mk ((show Below w.heap.size w ws2 by rw [hw];exact a_c HB.out GEn.out));clear hw BKp BKf BKs BKq BKn HB;have BKp:=m0_;have BKf:=m1_;have BKs:=m2_;have BKq:=m3_;have BKn:=m4_;have HB:=m5_;clear m0_ m1_ m2_ m3_ m4_ m5_;have hcz3_p_0 : World.cell? _ ⟨gbp,0,none⟩ = some (.slice A0 l.length c0):=(a_j BKp.out 0).trans rfl;have hfz3_p:=a_k BKp.out 0;have hcz3_f_0 : World.cell? _ ⟨gbf,0,none⟩ = some (.int .i64 frm):=(a_j BKf.out 0).trans rfl;have hfz3_f:=a_k BKf.out 0)
  | ((with_reducible refine a_E (N:=16) rfl ?_);refine Kd.d_N (Kd.int .i64) _ 3 ?hg (N:=16) ?hd (xs:=([frm] : List Int)) (inner:=[.int .i64 frm]) (ok:=fun _ => True) (okp:=fun _ => True) ?hr ?hp (fun _ hk => hk) trivial (Below.refl _ _) (Nat.le_refl _) (by simp) ?_;(case hd => rfl);(case hg => rfl);(case hr => first|(go_simp;done)|(go_simp;rfl));(case hp => exact (Reps.one (show Kd.M (Kd.int .i64) _ _ _ frm [.int .i64 frm] from rfl) (Reps.none _ _)));intro vns wl4 ho_ hb hg_ hnew_;clear hg_ hnew_;have m0_:=a_a.mk (a_e (g:=gbp) (o:=.cells #[.slice A0 l.length c0] 26 (0,0)) BKp.out hb);have m1_:=a_a.mk (a_e (g:=gbf) (o:=.cells #[.int .i64 frm] 3 (0,0)) BKf.out hb);have m2_:=a_a.mk (a_e (g:=gbs) (o:=.cells #[.int .u32 s] 31 (0,0)) BKs.out hb);have m3_:=a_a.mk (a_e (g:=gbq) (o:=.cells #[.slice none 0 0] 26 (0,0)) BKq.out hb);have m4_:=a_a.mk (a_e (g:=gbn) (o:=.cells #[.int .i64 0] 3 (0,0)) BKn.out hb);have m5_:=a_a.mk (a_i HB.out hb);have m6_:=a_a.mk (Kd.b_y ho_ HB.out.size);(try clear BKp);(try clear BKf);(try clear BKs);(try clear BKq);(try clear BKn);(try clear HB);have BKp:=m0_;have BKf:=m1_;have BKs:=m2_;have BKq:=m3_;have BKn:=m4_;have HB:=m5_;have HOns:=m6_;clear m0_ m1_ m2_ m3_ m4_ m5_ m6_ hb ho_;obtain ⟨Ans,cns,ens⟩:=Kd.b_D HOns.out;subst ens)
  | (go_at_call 45;(refine (c_e.bad 46 #[.pointer (some ⟨gbs,0,none⟩),.pointer (some ⟨gbf,0,none⟩),.pointer (some ⟨gbn,0,none⟩)] k A0 c0 l _ _ [frm] _ ?s1 HC.out ?s2 ?s3 e1 HE.out HP.out).mono ?_);(case s1 => exact Kd.a_8 HR.out HB.out);(case s2 => exact (Kd.a_r HOns.out).2.2);(case s3 => exact (Kd.a_r HOns.out).2.1);rintro e wr ⟨rfl,hb⟩;clear HOns hcz3_p_0 hfz3_p hcz3_f_0 hfz3_f;have m0_:=a_a.mk (a_e (g:=gbp) (o:=.cells #[.slice A0 l.length c0] 26 (0,0)) BKp.out hb);have m1_:=a_a.mk (a_e (g:=gbf) (o:=.cells #[.int .i64 frm] 3 (0,0)) BKf.out hb);have m2_:=a_a.mk (a_e (g:=gbs) (o:=.cells #[.int .u32 s] 31 (0,0)) BKs.out hb);have m3_:=a_a.mk (a_e (g:=gbq) (o:=.cells #[.slice none 0 0] 26 (0,0)) BKq.out hb);have m4_:=a_a.mk (a_e (g:=gbn) (o:=.cells #[.int .i64 0] 3 (0,0)) BKn.out hb);have m5_:=a_a.mk (a_i HB.out hb);(try clear BKp);(try clear BKf);(try clear BKs);(try clear BKq);(try clear BKn);(try clear HB);have BKp:=m0_;have BKf:=m1_;have BKs:=m2_;have BKq:=m3_;have BKn:=m4_;have HB:=m5_;clear m0_ m1_ m2_ m3_ m4_ m5_ hb;have HOv:=a_a.mk (Kd.d_L (Kd.int .u32) 31 wr w.heap.size (fun _ => True)))
  | ((with_reducible refine a_E (N:=10) rfl ?_);refine a_D ?hg (N:=10) ?hd (cs:=#[.slice none 0 0]) (t:=26) ?hr ?_;(case hd => rfl);(case hg => rfl);(case hr => first|(go_simp;done)|(go_simp;rfl));intro gbt hg wbt hbox hb;have m0_:=a_a.mk (a_e (g:=gbp) (o:=.cells #[.slice A0 l.length c0] 26 (0,0)) BKp.out hb);have m1_:=a_a.mk (a_e (g:=gbf) (o:=.cells #[.int .i64 frm] 3 (0,0)) BKf.out hb);have m2_:=a_a.mk (a_e (g:=gbs) (o:=.cells #[.int .u32 s] 31 (0,0)) BKs.out hb);have m3_:=a_a.mk (a_e (g:=gbq) (o:=.cells #[.slice none 0 0] 26 (0,0)) BKq.out hb);have m4_:=a_a.mk (a_e (g:=gbn) (o:=.cells #[.int .i64 0] 3 (0,0)) BKn.out hb);have m5_:=a_a.mk (Kd.a_y HOv.out hb);have m6_:=a_a.mk (a_i HB.out hb);have m7_:=a_a.mk (hbox);have m8_:=a_a.mk ((by rw [hg];exact HB.out.size : w.heap.size ≤ gbt));have m9_:=a_a.mk ((by rw [hg];exact Nat.ne_of_lt (a_p BKp.out) : gbp ≠ gbt));have m10_:=a_a.mk ((by rw [hg];exact Nat.ne_of_gt (a_p BKp.out) : gbt ≠ gbp));have m11_:=a_a.mk ((by rw [hg];exact Nat.ne_of_lt (a_p BKf.out) : gbf ≠ gbt));have m12_:=a_a.mk ((by rw [hg];exact Nat.ne_of_gt (a_p BKf.out) : gbt ≠ gbf));have m13_:=a_a.mk ((by rw [hg];exact Nat.ne_of_lt (a_p BKs.out) : gbs ≠ gbt));have m14_:=a_a.mk ((by rw [hg];exact Nat.ne_of_gt (a_p BKs.out) : gbt ≠ gbs));have m15_:=a_a.mk ((by rw [hg];exact Nat.ne_of_lt (a_p BKq.out) : gbq ≠ gbt));have m16_:=a_a.mk ((by rw [hg];exact Nat.ne_of_gt (a_p BKq.out) : gbt ≠ gbq));have m17_:=a_a.mk ((by rw [hg];exact Nat.ne_of_lt (a_p BKn.out) : gbn ≠ gbt));have m18_:=a_a.mk ((by rw [hg];exact Nat.ne_of_gt (a_p BKn.out) : gbt ≠ gbn));(try clear BKp);(try clear BKf);(try clear BKs);(try clear BKq);(try clear BKn);(try clear HOv);(try clear HB);have BKp:=m0_;have BKf:=m1_;have BKs:=m2_;have BKq:=m3_;have BKn:=m4_;have HOv:=m5_;have HB:=m6_;have BKt:=m7_;have GEt:=m8_;have NBp_t:=m9_;have NBt_p:=m10_;have NBf_t:=m11_;have NBt_f:=m12_;have NBs_t:=m13_;have NBt_s:=m14_;have NBq_t:=m15_;have NBt_q:=m16_;have NBn_t:=m17_;have NBt_n:=m18_;clear m0_ m1_ m2_ m3_ m4_ m5_ m6_ m7_ m8_ m9_ m10_ m11_ m12_ m13_ m14_ m15_ m16_ m17_ m18_ hb hbox hg;have hcz5_t_0 : World.cell? _ ⟨gbt,0,none⟩ = some (.slice none 0 0):=(a_j BKt.out 0).trans rfl;have hfz5_t:=a_k BKt.out 0)
  | ((with_reducible refine b_J (t:=26) (p:=10) rfl ?_);refine b_E (t:=26) (p:=10) (v:=?vo_ws6) (w1:=(wbt.setCell ⟨gbt,0,none⟩ (.slice none 0 0))) ?hg ?ho ?hn ?hr ?_;(case ho => rfl);(case hg => rfl);(case hn => rfl);(case hr => first|(go_simp;done)|(go_simp;rfl));intro ws6 hw;have m0_:=a_a.mk ((show ws6.heap[gbp]? = some (.cells #[.slice A0 l.length c0] 26 (0,0)) by rw [hw];exact a_Q BKp.out (p:=⟨gbt,0,none⟩) NBp_t.out _));have m1_:=a_a.mk ((show ws6.heap[gbf]? = some (.cells #[.int .i64 frm] 3 (0,0)) by rw [hw];exact a_Q BKf.out (p:=⟨gbt,0,none⟩) NBf_t.out _));have m2_:=a_a.mk ((show ws6.heap[gbs]? = some (.cells #[.int .u32 s] 31 (0,0)) by rw [hw];exact a_Q BKs.out (p:=⟨gbt,0,none⟩) NBs_t.out _));have m3_:=a_a.mk ((show ws6.heap[gbq]? = some (.cells #[.slice none 0 0] 26 (0,0)) by rw [hw];exact a_Q BKq.out (p:=⟨gbt,0,none⟩) NBq_t.out _));have m4_:=a_a.mk ((show ws6.heap[gbn]? = some (.cells #[.int .i64 0] 3 (0,0)) by rw [hw];exact a_Q BKn.out (p:=⟨gbt,0,none⟩) NBn_t.out _));have m5_:=a_a.mk ((show ws6.heap[gbt]? = some (.cells #[.slice none 0 0] 26 (0,0)) by rw [hw];exact b_q (cs:=#[.slice none 0 0]) BKt.out 0 _ rfl));have m6_:=a_a.mk ((show Kd.R (Kd.int .u32) 31 ws6 w.heap.size (fun _ => True) (.slice none 0 0) [] by rw [hw];exact Kd.c_J HOv.out BKt.out (by decide) 0 _));have m7_:=a_a.mk ((show Below w.heap.size w ws6 by rw [hw];exact a_c HB.out GEt.out));clear hw BKp BKf BKs BKq BKn BKt HOv HB;have BKp:=m0_;have BKf:=m1_;have BKs:=m2_;have BKq:=m3_;have BKn:=m4_;have BKt:=m5_;have HOv:=m6_;have HB:=m7_;clear m0_ m1_ m2_ m3_ m4_ m5_ m6_ m7_;have hcz7_t_0 : World.cell? _ ⟨gbt,0,none⟩ = some (.slice none 0 0):=(a_j BKt.out 0).trans rfl;have hfz7_t:=a_k BKt.out 0;have hcz7_n_0 : World.cell? _ ⟨gbn,0,none⟩ = some (.int .i64 0):=(a_j BKn.out 0).trans rfl;have hfz7_n:=a_k BKn.out 0;have hcz7_q_0 : World.cell? _ ⟨gbq,0,none⟩ = some (.slice none 0 0):=(a_j BKq.out 0).trans rfl;have hfz7_q:=a_k BKq.out 0;have hne1_:=NBt_q.out;have hne2_:=NBq_t.out;have hne3_:=NBn_q.out;have hne4_:=NBq_n.out))
 go_region
 go_wp2
 refine bodyPost_ret (c_c rfl _ _ gbq 26 #[.slice none 0 0] (0,0) _ rfl (b_q (cs:=#[.slice none 0 0]) (a_t BKq.out) 0 _ rfl) Try.underlying26 rfl (by kernel_rfl)) rfl ?_
 exact ⟨_,rfl,Kd.c_J (Kd.a_0 HOv.out) (a_t BKq.out) (by decide) 0 _,(HB.out.drew).setCell GEq.out _⟩
set_option maxHeartbeats 4000000 in
theorem b_u.lacks (k : Nat) (A0 : Option Addr) (c0 : Nat) (l : List Int) (frm s : Int) (w : World) (hr : Kd.C (Kd.int .u32) w A0 l.length l) (hc : l.length ≤ c0) (hec : a_s.f k l = some 0) (hp : b_l.f l [frm] = some false) :
 Calls Try.prog 29 #[.agg #[.slice A0 l.length c0],.int .i64 frm,.int .u32 s] w fun e w' => ∃ v0_ : Value,e = .returned (.tuple #[.agg #[v0_],.int .i64 0,.int .i64 4]) ∧ Kd.R (Kd.int .u32) 31 w' w.heap.size (fun _ => True) v0_ [] ∧ Below w.heap.size w w':=by
 have HR:=a_a.mk hr
 have HC:=a_a.mk hc
 have HE:=a_a.mk hec
 have HP:=a_a.mk hp
 clear hr hc hec hp
 have HB:=a_a.mk (Below.refl w.heap.size w)
 go_enter Try.func29,Try.ntmps29
 go_wp2_with (first
  | ((with_reducible refine a_E (N:=3) rfl ?_);refine a_D ?hg (N:=3) ?hd (cs:=#[.slice A0 l.length c0]) (t:=26) ?hr ?_;(case hd => rfl);(case hg => rfl);(case hr => first|(go_simp;done)|(go_simp;rfl));intro gbp hg wbp hbox hb;have m0_:=a_a.mk (a_i HB.out hb);have m1_:=a_a.mk (hbox);have m2_:=a_a.mk ((by rw [hg];exact HB.out.size : w.heap.size ≤ gbp));(try clear HB);have HB:=m0_;have BKp:=m1_;have GEp:=m2_;clear m0_ m1_ m2_ hb hbox hg)
  | ((with_reducible refine a_E (N:=4) rfl ?_);refine a_D ?hg (N:=4) ?hd (cs:=#[.int .i64 frm]) (t:=3) ?hr ?_;(case hd => rfl);(case hg => rfl);(case hr => first|(go_simp;done)|(go_simp;rfl));intro gbf hg wbf hbox hb;have m0_:=a_a.mk (a_e (g:=gbp) (o:=.cells #[.slice A0 l.length c0] 26 (0,0)) BKp.out hb);have m1_:=a_a.mk (a_i HB.out hb);have m2_:=a_a.mk (hbox);have m3_:=a_a.mk ((by rw [hg];exact HB.out.size : w.heap.size ≤ gbf));have m4_:=a_a.mk ((by rw [hg];exact Nat.ne_of_lt (a_p BKp.out) : gbp ≠ gbf));have m5_:=a_a.mk ((by rw [hg];exact Nat.ne_of_gt (a_p BKp.out) : gbf ≠ gbp));(try clear BKp);(try clear HB);have BKp:=m0_;have HB:=m1_;have BKf:=m2_;have GEf:=m3_;have NBp_f:=m4_;have NBf_p:=m5_;clear m0_ m1_ m2_ m3_ m4_ m5_ hb hbox hg)
  | ((with_reducible refine a_E (N:=5) rfl ?_);refine a_D ?hg (N:=5) ?hd (cs:=#[.int .u32 s]) (t:=31) ?hr ?_;(case hd => rfl);(case hg => rfl);(case hr => first|(go_simp;done)|(go_simp;rfl));intro gbs hg wbs hbox hb;have m0_:=a_a.mk (a_e (g:=gbp) (o:=.cells #[.slice A0 l.length c0] 26 (0,0)) BKp.out hb);have m1_:=a_a.mk (a_e (g:=gbf) (o:=.cells #[.int .i64 frm] 3 (0,0)) BKf.out hb);have m2_:=a_a.mk (a_i HB.out hb);have m3_:=a_a.mk (hbox);have m4_:=a_a.mk ((by rw [hg];exact HB.out.size : w.heap.size ≤ gbs));have m5_:=a_a.mk ((by rw [hg];exact Nat.ne_of_lt (a_p BKp.out) : gbp ≠ gbs));have m6_:=a_a.mk ((by rw [hg];exact Nat.ne_of_gt (a_p BKp.out) : gbs ≠ gbp));have m7_:=a_a.mk ((by rw [hg];exact Nat.ne_of_lt (a_p BKf.out) : gbf ≠ gbs));have m8_:=a_a.mk ((by rw [hg];exact Nat.ne_of_gt (a_p BKf.out) : gbs ≠ gbf));(try clear BKp);(try clear BKf);(try clear HB);have BKp:=m0_;have BKf:=m1_;have HB:=m2_;have BKs:=m3_;have GEs:=m4_;have NBp_s:=m5_;have NBs_p:=m6_;have NBf_s:=m7_;have NBs_f:=m8_;clear m0_ m1_ m2_ m3_ m4_ m5_ m6_ m7_ m8_ hb hbox hg)
  | ((with_reducible refine a_E (N:=6) rfl ?_);refine a_D ?hg (N:=6) ?hd (cs:=#[.slice none 0 0]) (t:=26) ?hr ?_;(case hd => rfl);(case hg => rfl);(case hr => first|(go_simp;done)|(go_simp;rfl));intro gbq hg wbq hbox hb;have m0_:=a_a.mk (a_e (g:=gbp) (o:=.cells #[.slice A0 l.length c0] 26 (0,0)) BKp.out hb);have m1_:=a_a.mk (a_e (g:=gbf) (o:=.cells #[.int .i64 frm] 3 (0,0)) BKf.out hb);have m2_:=a_a.mk (a_e (g:=gbs) (o:=.cells #[.int .u32 s] 31 (0,0)) BKs.out hb);have m3_:=a_a.mk (a_i HB.out hb);have m4_:=a_a.mk (hbox);have m5_:=a_a.mk ((by rw [hg];exact HB.out.size : w.heap.size ≤ gbq));have m6_:=a_a.mk ((by rw [hg];exact Nat.ne_of_lt (a_p BKp.out) : gbp ≠ gbq));have m7_:=a_a.mk ((by rw [hg];exact Nat.ne_of_gt (a_p BKp.out) : gbq ≠ gbp));have m8_:=a_a.mk ((by rw [hg];exact Nat.ne_of_lt (a_p BKf.out) : gbf ≠ gbq));have m9_:=a_a.mk ((by rw [hg];exact Nat.ne_of_gt (a_p BKf.out) : gbq ≠ gbf));have m10_:=a_a.mk ((by rw [hg];exact Nat.ne_of_lt (a_p BKs.out) : gbs ≠ gbq));have m11_:=a_a.mk ((by rw [hg];exact Nat.ne_of_gt (a_p BKs.out) : gbq ≠ gbs));(try clear BKp);(try clear BKf);(try clear BKs);(try clear HB);have BKp:=m0_;have BKf:=m1_;have BKs:=m2_;have HB:=m3_;have BKq:=m4_;have GEq:=m5_;have NBp_q:=m6_;have NBq_p:=m7_;have NBf_q:=m8_;have NBq_f:=m9_;have NBs_q:=m10_;have NBq_s:=m11_;clear m0_ m1_ m2_ m3_ m4_ m5_ m6_ m7_ m8_ m9_ m10_ m11_ hb hbox hg)
  | ((with_reducible refine a_E (N:=9) rfl ?_);refine a_D ?hg (N:=9) ?hd (cs:=#[.int .i64 0]) (t:=3) ?hr ?_;(case hd => rfl);(case hg => rfl);(case hr => first|(go_simp;done)|(go_simp;rfl));intro gbn hg wbn hbox hb;have m0_:=a_a.mk (a_e (g:=gbp) (o:=.cells #[.slice A0 l.length c0] 26 (0,0)) BKp.out hb);have m1_:=a_a.mk (a_e (g:=gbf) (o:=.cells #[.int .i64 frm] 3 (0,0)) BKf.out hb);have m2_:=a_a.mk (a_e (g:=gbs) (o:=.cells #[.int .u32 s] 31 (0,0)) BKs.out hb);have m3_:=a_a.mk (a_e (g:=gbq) (o:=.cells #[.slice none 0 0] 26 (0,0)) BKq.out hb);have m4_:=a_a.mk (a_i HB.out hb);have m5_:=a_a.mk (hbox);have m6_:=a_a.mk ((by rw [hg];exact HB.out.size : w.heap.size ≤ gbn));have m7_:=a_a.mk ((by rw [hg];exact Nat.ne_of_lt (a_p BKp.out) : gbp ≠ gbn));have m8_:=a_a.mk ((by rw [hg];exact Nat.ne_of_gt (a_p BKp.out) : gbn ≠ gbp));have m9_:=a_a.mk ((by rw [hg];exact Nat.ne_of_lt (a_p BKf.out) : gbf ≠ gbn));have m10_:=a_a.mk ((by rw [hg];exact Nat.ne_of_gt (a_p BKf.out) : gbn ≠ gbf));have m11_:=a_a.mk ((by rw [hg];exact Nat.ne_of_lt (a_p BKs.out) : gbs ≠ gbn));have m12_:=a_a.mk ((by rw [hg];exact Nat.ne_of_gt (a_p BKs.out) : gbn ≠ gbs));have m13_:=a_a.mk ((by rw [hg];exact Nat.ne_of_lt (a_p BKq.out) : gbq ≠ gbn));have m14_:=a_a.mk ((by rw [hg];exact Nat.ne_of_gt (a_p BKq.out) : gbn ≠ gbq));(try clear BKp);(try clear BKf);(try clear BKs);(try clear BKq);(try clear HB);have BKp:=m0_;have BKf:=m1_;have BKs:=m2_;have BKq:=m3_;have HB:=m4_;have BKn:=m5_;have GEn:=m6_;have NBp_n:=m7_;have NBn_p:=m8_;have NBf_n:=m9_;have NBn_f:=m10_;have NBs_n:=m11_;have NBn_s:=m12_;have NBq_n:=m13_;have NBn_q:=m14_;clear m0_ m1_ m2_ m3_ m4_ m5_ m6_ m7_ m8_ m9_ m10_ m11_ m12_ m13_ m14_ hb hbox hg;have hcz1_n_0 : World.cell? _ ⟨gbn,0,none⟩ = some (.int .i64 0):=(a_j BKn.out 0).trans rfl;have hfz1_n:=a_k BKn.out 0)
  | ((with_reducible refine b_J (t:=3) (p:=9) rfl ?_);refine b_E (t:=3) (p:=9) (v:=?vo_ws2) (w1:=(wbn.setCell ⟨gbn,0,none⟩ (.int .i64 0))) ?hg ?ho ?hn ?hr ?_;(case ho => rfl);(case hg => rfl);(case hn => rfl);(case hr => first|(go_simp;done)|(go_simp;rfl));intro ws2 hw;have m0_:=a_a.mk ((show ws2.heap[gbp]? = some (.cells #[.slice A0 l.length c0] 26 (0,0)) by rw [hw];exact a_Q BKp.out (p:=⟨gbn,0,none⟩) NBp_n.out _));have m1_:=a_a.mk ((show ws2.heap[gbf]? = some (.cells #[.int .i64 frm] 3 (0,0)) by rw [hw];exact a_Q BKf.out (p:=⟨gbn,0,none⟩) NBf_n.out _));have m2_:=a_a.mk ((show ws2.heap[gbs]? = some (.cells #[.int .u32 s] 31 (0,0)) by rw [hw];exact a_Q BKs.out (p:=⟨gbn,0,none⟩) NBs_n.out _));have m3_:=a_a.mk ((show ws2.heap[gbq]? = some (.cells #[.slice none 0 0] 26 (0,0)) by rw [hw];exact a_Q BKq.out (p:=⟨gbn,0,none⟩) NBq_n.out _));have m4_:=a_a.mk ((show ws2.heap[gbn]? = some (.cells #[.int .i64 0] 3 (0,0)) by rw [hw];exact b_q (cs:=#[.int .i64 0]) BKn.out 0 _ rfl));have m5_:=a_a.mk ((show Below w.heap.size w ws2 by rw [hw];exact a_c HB.out GEn.out));clear hw BKp BKf BKs BKq BKn HB;have BKp:=m0_;have BKf:=m1_;have BKs:=m2_;have BKq:=m3_;have BKn:=m4_;have HB:=m5_;clear m0_ m1_ m2_ m3_ m4_ m5_;have hcz3_p_0 : World.cell? _ ⟨gbp,0,none⟩ = some (.slice A0 l.length c0):=(a_j BKp.out 0).trans rfl;have hfz3_p:=a_k BKp.out 0;have hcz3_f_0 : World.cell? _ ⟨gbf,0,none⟩ = some (.int .i64 frm):=(a_j BKf.out 0).trans rfl;have hfz3_f:=a_k BKf.out 0)
  | ((with_reducible refine a_E (N:=16) rfl ?_);refine Kd.d_N (Kd.int .i64) _ 3 ?hg (N:=16) ?hd (xs:=([frm] : List Int)) (inner:=[.int .i64 frm]) (ok:=fun _ => True) (okp:=fun _ => True) ?hr ?hp (fun _ hk => hk) trivial (Below.refl _ _) (Nat.le_refl _) (by simp) ?_;(case hd => rfl);(case hg => rfl);(case hr => first|(go_simp;done)|(go_simp;rfl));(case hp => exact (Reps.one (show Kd.M (Kd.int .i64) _ _ _ frm [.int .i64 frm] from rfl) (Reps.none _ _)));intro vns wl4 ho_ hb hg_ hnew_;clear hg_ hnew_;have m0_:=a_a.mk (a_e (g:=gbp) (o:=.cells #[.slice A0 l.length c0] 26 (0,0)) BKp.out hb);have m1_:=a_a.mk (a_e (g:=gbf) (o:=.cells #[.int .i64 frm] 3 (0,0)) BKf.out hb);have m2_:=a_a.mk (a_e (g:=gbs) (o:=.cells #[.int .u32 s] 31 (0,0)) BKs.out hb);have m3_:=a_a.mk (a_e (g:=gbq) (o:=.cells #[.slice none 0 0] 26 (0,0)) BKq.out hb);have m4_:=a_a.mk (a_e (g:=gbn) (o:=.cells #[.int .i64 0] 3 (0,0)) BKn.out hb);have m5_:=a_a.mk (a_i HB.out hb);have m6_:=a_a.mk (Kd.b_y ho_ HB.out.size);(try clear BKp);(try clear BKf);(try clear BKs);(try clear BKq);(try clear BKn);(try clear HB);have BKp:=m0_;have BKf:=m1_;have BKs:=m2_;have BKq:=m3_;have BKn:=m4_;have HB:=m5_;have HOns:=m6_;clear m0_ m1_ m2_ m3_ m4_ m5_ m6_ hb ho_;obtain ⟨Ans,cns,ens⟩:=Kd.b_D HOns.out;subst ens)
  | (go_at_call 45;(refine (c_e.lacks 46 #[.pointer (some ⟨gbs,0,none⟩),.pointer (some ⟨gbf,0,none⟩),.pointer (some ⟨gbn,0,none⟩)] k A0 c0 l _ _ [frm] _ ?s1 HC.out ?s2 ?s3 HE.out HP.out).mono ?_);(case s1 => exact Kd.a_8 HR.out HB.out);(case s2 => exact (Kd.a_r HOns.out).2.2);(case s3 => exact (Kd.a_r HOns.out).2.1);rintro e wr ⟨rfl,hb⟩;clear HOns hcz3_p_0 hfz3_p hcz3_f_0 hfz3_f;have m0_:=a_a.mk (a_e (g:=gbp) (o:=.cells #[.slice A0 l.length c0] 26 (0,0)) BKp.out hb);have m1_:=a_a.mk (a_e (g:=gbf) (o:=.cells #[.int .i64 frm] 3 (0,0)) BKf.out hb);have m2_:=a_a.mk (a_e (g:=gbs) (o:=.cells #[.int .u32 s] 31 (0,0)) BKs.out hb);have m3_:=a_a.mk (a_e (g:=gbq) (o:=.cells #[.slice none 0 0] 26 (0,0)) BKq.out hb);have m4_:=a_a.mk (a_e (g:=gbn) (o:=.cells #[.int .i64 0] 3 (0,0)) BKn.out hb);have m5_:=a_a.mk (a_i HB.out hb);(try clear BKp);(try clear BKf);(try clear BKs);(try clear BKq);(try clear BKn);(try clear HB);have BKp:=m0_;have BKf:=m1_;have BKs:=m2_;have BKq:=m3_;have BKn:=m4_;have HB:=m5_;clear m0_ m1_ m2_ m3_ m4_ m5_ hb;have HOv:=a_a.mk (Kd.d_L (Kd.int .u32) 31 wr w.heap.size (fun _ => True)))
  | ((with_reducible refine a_E (N:=10) rfl ?_);refine a_D ?hg (N:=10) ?hd (cs:=#[.slice none 0 0]) (t:=26) ?hr ?_;(case hd => rfl);(case hg => rfl);(case hr => first|(go_simp;done)|(go_simp;rfl));intro gbt hg wbt hbox hb;have m0_:=a_a.mk (a_e (g:=gbp) (o:=.cells #[.slice A0 l.length c0] 26 (0,0)) BKp.out hb);have m1_:=a_a.mk (a_e (g:=gbf) (o:=.cells #[.int .i64 frm] 3 (0,0)) BKf.out hb);have m2_:=a_a.mk (a_e (g:=gbs) (o:=.cells #[.int .u32 s] 31 (0,0)) BKs.out hb);have m3_:=a_a.mk (a_e (g:=gbq) (o:=.cells #[.slice none 0 0] 26 (0,0)) BKq.out hb);have m4_:=a_a.mk (a_e (g:=gbn) (o:=.cells #[.int .i64 0] 3 (0,0)) BKn.out hb);have m5_:=a_a.mk (Kd.a_y HOv.out hb);have m6_:=a_a.mk (a_i HB.out hb);have m7_:=a_a.mk (hbox);have m8_:=a_a.mk ((by rw [hg];exact HB.out.size : w.heap.size ≤ gbt));have m9_:=a_a.mk ((by rw [hg];exact Nat.ne_of_lt (a_p BKp.out) : gbp ≠ gbt));have m10_:=a_a.mk ((by rw [hg];exact Nat.ne_of_gt (a_p BKp.out) : gbt ≠ gbp));have m11_:=a_a.mk ((by rw [hg];exact Nat.ne_of_lt (a_p BKf.out) : gbf ≠ gbt));have m12_:=a_a.mk ((by rw [hg];exact Nat.ne_of_gt (a_p BKf.out) : gbt ≠ gbf));have m13_:=a_a.mk ((by rw [hg];exact Nat.ne_of_lt (a_p BKs.out) : gbs ≠ gbt));have m14_:=a_a.mk ((by rw [hg];exact Nat.ne_of_gt (a_p BKs.out) : gbt ≠ gbs));have m15_:=a_a.mk ((by rw [hg];exact Nat.ne_of_lt (a_p BKq.out) : gbq ≠ gbt));have m16_:=a_a.mk ((by rw [hg];exact Nat.ne_of_gt (a_p BKq.out) : gbt ≠ gbq));have m17_:=a_a.mk ((by rw [hg];exact Nat.ne_of_lt (a_p BKn.out) : gbn ≠ gbt));have m18_:=a_a.mk ((by rw [hg];exact Nat.ne_of_gt (a_p BKn.out) : gbt ≠ gbn));(try clear BKp);(try clear BKf);(try clear BKs);(try clear BKq);(try clear BKn);(try clear HOv);(try clear HB);have BKp:=m0_;have BKf:=m1_;have BKs:=m2_;have BKq:=m3_;have BKn:=m4_;have HOv:=m5_;have HB:=m6_;have BKt:=m7_;have GEt:=m8_;have NBp_t:=m9_;have NBt_p:=m10_;have NBf_t:=m11_;have NBt_f:=m12_;have NBs_t:=m13_;have NBt_s:=m14_;have NBq_t:=m15_;have NBt_q:=m16_;have NBn_t:=m17_;have NBt_n:=m18_;clear m0_ m1_ m2_ m3_ m4_ m5_ m6_ m7_ m8_ m9_ m10_ m11_ m12_ m13_ m14_ m15_ m16_ m17_ m18_ hb hbox hg;have hcz5_t_0 : World.cell? _ ⟨gbt,0,none⟩ = some (.slice none 0 0):=(a_j BKt.out 0).trans rfl;have hfz5_t:=a_k BKt.out 0)
  | ((with_reducible refine b_J (t:=26) (p:=10) rfl ?_);refine b_E (t:=26) (p:=10) (v:=?vo_ws6) (w1:=(wbt.setCell ⟨gbt,0,none⟩ (.slice none 0 0))) ?hg ?ho ?hn ?hr ?_;(case ho => rfl);(case hg => rfl);(case hn => rfl);(case hr => first|(go_simp;done)|(go_simp;rfl));intro ws6 hw;have m0_:=a_a.mk ((show ws6.heap[gbp]? = some (.cells #[.slice A0 l.length c0] 26 (0,0)) by rw [hw];exact a_Q BKp.out (p:=⟨gbt,0,none⟩) NBp_t.out _));have m1_:=a_a.mk ((show ws6.heap[gbf]? = some (.cells #[.int .i64 frm] 3 (0,0)) by rw [hw];exact a_Q BKf.out (p:=⟨gbt,0,none⟩) NBf_t.out _));have m2_:=a_a.mk ((show ws6.heap[gbs]? = some (.cells #[.int .u32 s] 31 (0,0)) by rw [hw];exact a_Q BKs.out (p:=⟨gbt,0,none⟩) NBs_t.out _));have m3_:=a_a.mk ((show ws6.heap[gbq]? = some (.cells #[.slice none 0 0] 26 (0,0)) by rw [hw];exact a_Q BKq.out (p:=⟨gbt,0,none⟩) NBq_t.out _));have m4_:=a_a.mk ((show ws6.heap[gbn]? = some (.cells #[.int .i64 0] 3 (0,0)) by rw [hw];exact a_Q BKn.out (p:=⟨gbt,0,none⟩) NBn_t.out _));have m5_:=a_a.mk ((show ws6.heap[gbt]? = some (.cells #[.slice none 0 0] 26 (0,0)) by rw [hw];exact b_q (cs:=#[.slice none 0 0]) BKt.out 0 _ rfl));have m6_:=a_a.mk ((show Kd.R (Kd.int .u32) 31 ws6 w.heap.size (fun _ => True) (.slice none 0 0) [] by rw [hw];exact Kd.c_J HOv.out BKt.out (by decide) 0 _));have m7_:=a_a.mk ((show Below w.heap.size w ws6 by rw [hw];exact a_c HB.out GEt.out));clear hw BKp BKf BKs BKq BKn BKt HOv HB;have BKp:=m0_;have BKf:=m1_;have BKs:=m2_;have BKq:=m3_;have BKn:=m4_;have BKt:=m5_;have HOv:=m6_;have HB:=m7_;clear m0_ m1_ m2_ m3_ m4_ m5_ m6_ m7_;have hcz7_t_0 : World.cell? _ ⟨gbt,0,none⟩ = some (.slice none 0 0):=(a_j BKt.out 0).trans rfl;have hfz7_t:=a_k BKt.out 0;have hcz7_n_0 : World.cell? _ ⟨gbn,0,none⟩ = some (.int .i64 0):=(a_j BKn.out 0).trans rfl;have hfz7_n:=a_k BKn.out 0;have hcz7_q_0 : World.cell? _ ⟨gbq,0,none⟩ = some (.slice none 0 0):=(a_j BKq.out 0).trans rfl;have hfz7_q:=a_k BKq.out 0;have hne1_:=NBt_q.out;have hne2_:=NBq_t.out;have hne3_:=NBn_q.out;have hne4_:=NBq_n.out))
 go_region
 go_wp2
 refine bodyPost_ret (c_c rfl _ _ gbq 26 #[.slice none 0 0] (0,0) _ rfl (b_q (cs:=#[.slice none 0 0]) (a_t BKq.out) 0 _ rfl) Try.underlying26 rfl (by kernel_rfl)) rfl ?_
 exact ⟨_,rfl,Kd.c_J (Kd.a_0 HOv.out) (a_t BKq.out) (by decide) 0 _,(HB.out.drew).setCell GEq.out _⟩
def b_u.f (k : Nat) (l0_0 : List Int) (a1 : Int) (a2 : Int) : Option (List Int × Int × Int) :=
 if l0_0.length < 35184372088832 then (a_s.f k l0_0).bind fun e => if e ≠ 0 then some ([],0,e) else (b_l.f l0_0 [a1]).bind fun ok => if ok = false then some ([],0,4) else (e_p l0_0 a1 a2).bind fun x => some (if x.1 = 0 then x.2.1 else [],x.2.2,x.1) else none
theorem b_u.mono : ∀ a0 a1 a2 k,LeO (b_u.f k a0 a1 a2) (b_u.f (k + 1) a0 a1 a2):=by
 intro a0 a1 a2 k
 unfold b_u.f
 split
 ·exact LeO.bind (a_s.mono a0 k) (fun _ => LeO.refl _)
 exact LeO.refl _
theorem b_l.one {l : List Int} {n : Int} (h : b_l.f l [n] = some true) : 0 ≤ n ∧ n < l.length:=by
 unfold b_l.f at h
 simp at h
 omega
theorem b_u.calls (k : Nat) (A0_0 : Option Addr) (c0_0 : Nat) (l0_0 : List Int) (a1 : Int) (a2 : Int) (r1 : List Int) (r2 : Int) (r3 : Int) (w : World) (hr0_0 : Kd.C (Kd.int .u32) w A0_0 l0_0.length l0_0) (hc0_0 : l0_0.length ≤ c0_0) (h : b_u.f k l0_0 a1 a2 = some (r1,r2,r3)) :
 Calls Try.prog 29 #[.agg #[.slice A0_0 l0_0.length c0_0],.int .i64 a1,.int .u32 a2] w fun e w' => ∃ v0_ : Value,e = .returned (.tuple #[.agg #[v0_],.int .i64 r2,.int .i64 r3]) ∧ Kd.R (Kd.int .u32) 31 w' w.heap.size (fun _ => True) v0_ r1 ∧ Below w.heap.size w w':=by
 unfold b_u.f at h
 split at h
 case isFalse => cases h
 case isTrue hl =>
 obtain ⟨e,he,h⟩:=Option.bind_eq_some_iff.mp h
 by_cases e0 : e = 0
 case neg =>
  rw [if_pos e0] at h
  injection h with h;injection h with h1 h;injection h with h2 h3
  subst h1 h2 h3
  exact b_u.bad k A0_0 c0_0 l0_0 a1 a2 w hr0_0 hc0_0 e he e0
 subst e0
 rw [if_neg (by simp)] at h
 obtain ⟨ok,hok,h⟩:=Option.bind_eq_some_iff.mp h
 cases ok
 ·rw [if_pos rfl] at h
  injection h with h;injection h with h1 h;injection h with h2 h3
  subst h1 h2 h3
  exact b_u.lacks k A0_0 c0_0 l0_0 a1 a2 w hr0_0 hc0_0 he hok
 rw [if_neg (by simp)] at h
 obtain ⟨⟨err,l',n⟩,hx,h⟩:=Option.bind_eq_some_iff.mp h
 injection h with h;injection h with h1 h;injection h with h2 h3
 subst h2 h3
 obtain ⟨h0,h1'⟩:=b_l.one hok
 obtain ⟨ad,rfl,_⟩:=Kd.b_w hr0_0 a1 h0 h1'
 exact b_u.does k ad c0_0 l0_0 a1 a2 err n l' w hr0_0 hc0_0 hl he hok h0 h1' hx r1 h1.symm
end Go.Proofs.Ytkhbffjfclepfaa.Q
end
section
namespace Go.Proofs.Ytkhbffjfclepfaa.Q
open Go.RowKit Go.Proofs.YtkhbffjfclepfaaW.PrintWords Go.Proofs.YtkhbffjfclepfaaW.PrintLast Go.Proofs.YtkhbffjfclepfaaW.PrintMore
set_option linter.unusedVariables false
set_option linter.unusedSimpArgs false
def b_N.f (a0 : Int) : Option (Int):=if 0 ≤ (a0 / 16777216) then (if (a0 / 16777216) < 256 then (if 0 ≤ (Go.bits .and .u32 (a0 / 65536) 255) then (if (Go.bits .and .u32 (a0 / 65536) 255) < 256 then (if 0 ≤ (Go.bits .and .u32 (a0 / 256) 255) then (if (Go.bits .and .u32 (a0 / 256) 255) < 256 then (if 0 ≤ (Go.bits .and .u32 a0 255) then (if (Go.bits .and .u32 a0 255) < 256 then (some (((((((bt (⟨#[0,1,1,2,1,2,2,3,1,2,2,3,2,3,3,4,1,2,2,3,2,3,3,4,2,3,3,4,3,4,4,5,1,2,2,3,2,3,3,4,2,3,3,4,3,4,4,5,2,3,3,4,3,4,4,5,3,4,4,5,4,5,5,6,1,2,2,3,2,3,3,4,2,3,3,4,3,4,4,5,2,3,3,4,3,4,4,5,3,4,4,5,4,5,5,6,2,3,3,4,3,4,4,5,3,4,4,5,4,5,5,6,3,4,4,5,4,5,5,6,4,5,5,6,5,6,6,7,1,2,2,3,2,3,3,4,2,3,3,4,3,4,4,5,2,3,3,4,3,4,4,5,3,4,4,5,4,5,5,6,2,3,3,4,3,4,4,5,3,4,4,5,4,5,5,6,3,4,4,5,4,5,5,6,4,5,5,6,5,6,6,7,2,3,3,4,3,4,4,5,3,4,4,5,4,5,5,6,3,4,4,5,4,5,5,6,4,5,5,6,5,6,6,7,3,4,4,5,4,5,5,6,4,5,5,6,5,6,6,7,4,5,5,6,5,6,6,7,5,6,6,7,6,7,7,8]⟩ : ByteArray) (a0 / 16777216)) + (bt (⟨#[0,1,1,2,1,2,2,3,1,2,2,3,2,3,3,4,1,2,2,3,2,3,3,4,2,3,3,4,3,4,4,5,1,2,2,3,2,3,3,4,2,3,3,4,3,4,4,5,2,3,3,4,3,4,4,5,3,4,4,5,4,5,5,6,1,2,2,3,2,3,3,4,2,3,3,4,3,4,4,5,2,3,3,4,3,4,4,5,3,4,4,5,4,5,5,6,2,3,3,4,3,4,4,5,3,4,4,5,4,5,5,6,3,4,4,5,4,5,5,6,4,5,5,6,5,6,6,7,1,2,2,3,2,3,3,4,2,3,3,4,3,4,4,5,2,3,3,4,3,4,4,5,3,4,4,5,4,5,5,6,2,3,3,4,3,4,4,5,3,4,4,5,4,5,5,6,3,4,4,5,4,5,5,6,4,5,5,6,5,6,6,7,2,3,3,4,3,4,4,5,3,4,4,5,4,5,5,6,3,4,4,5,4,5,5,6,4,5,5,6,5,6,6,7,3,4,4,5,4,5,5,6,4,5,5,6,5,6,6,7,4,5,5,6,5,6,6,7,5,6,6,7,6,7,7,8]⟩ : ByteArray) (Go.bits .and .u32 (a0 / 65536) 255))) % 256) + (bt (⟨#[0,1,1,2,1,2,2,3,1,2,2,3,2,3,3,4,1,2,2,3,2,3,3,4,2,3,3,4,3,4,4,5,1,2,2,3,2,3,3,4,2,3,3,4,3,4,4,5,2,3,3,4,3,4,4,5,3,4,4,5,4,5,5,6,1,2,2,3,2,3,3,4,2,3,3,4,3,4,4,5,2,3,3,4,3,4,4,5,3,4,4,5,4,5,5,6,2,3,3,4,3,4,4,5,3,4,4,5,4,5,5,6,3,4,4,5,4,5,5,6,4,5,5,6,5,6,6,7,1,2,2,3,2,3,3,4,2,3,3,4,3,4,4,5,2,3,3,4,3,4,4,5,3,4,4,5,4,5,5,6,2,3,3,4,3,4,4,5,3,4,4,5,4,5,5,6,3,4,4,5,4,5,5,6,4,5,5,6,5,6,6,7,2,3,3,4,3,4,4,5,3,4,4,5,4,5,5,6,3,4,4,5,4,5,5,6,4,5,5,6,5,6,6,7,3,4,4,5,4,5,5,6,4,5,5,6,5,6,6,7,4,5,5,6,5,6,6,7,5,6,6,7,6,7,7,8]⟩ : ByteArray) (Go.bits .and .u32 (a0 / 256) 255))) % 256) + (bt (⟨#[0,1,1,2,1,2,2,3,1,2,2,3,2,3,3,4,1,2,2,3,2,3,3,4,2,3,3,4,3,4,4,5,1,2,2,3,2,3,3,4,2,3,3,4,3,4,4,5,2,3,3,4,3,4,4,5,3,4,4,5,4,5,5,6,1,2,2,3,2,3,3,4,2,3,3,4,3,4,4,5,2,3,3,4,3,4,4,5,3,4,4,5,4,5,5,6,2,3,3,4,3,4,4,5,3,4,4,5,4,5,5,6,3,4,4,5,4,5,5,6,4,5,5,6,5,6,6,7,1,2,2,3,2,3,3,4,2,3,3,4,3,4,4,5,2,3,3,4,3,4,4,5,3,4,4,5,4,5,5,6,2,3,3,4,3,4,4,5,3,4,4,5,4,5,5,6,3,4,4,5,4,5,5,6,4,5,5,6,5,6,6,7,2,3,3,4,3,4,4,5,3,4,4,5,4,5,5,6,3,4,4,5,4,5,5,6,4,5,5,6,5,6,6,7,3,4,4,5,4,5,5,6,4,5,5,6,5,6,6,7,4,5,5,6,5,6,6,7,5,6,6,7,6,7,7,8]⟩ : ByteArray) (Go.bits .and .u32 a0 255))) % 256)) else (none)) else (none)) else (none)) else (none)) else (none)) else (none)) else (none)) else (none)
set_option maxHeartbeats 8000000 in
set_option maxRecDepth 100000 in
theorem b_N.calls (a0 : Int) (r : Int) (w : World) (h : b_N.f a0 = some r) :
 Calls Try.prog 58 #[.int .u32 a0] w fun e w' => e = .returned (.int .i64 r) ∧ b_g w w':=by
 have H : (if 0 ≤ (a0 / 16777216) then (if (a0 / 16777216) < 256 then (if 0 ≤ (Go.bits .and .u32 (a0 / 65536) 255) then (if (Go.bits .and .u32 (a0 / 65536) 255) < 256 then (if 0 ≤ (Go.bits .and .u32 (a0 / 256) 255) then (if (Go.bits .and .u32 (a0 / 256) 255) < 256 then (if 0 ≤ (Go.bits .and .u32 a0 255) then (if (Go.bits .and .u32 a0 255) < 256 then (some (((((((bt (⟨#[0,1,1,2,1,2,2,3,1,2,2,3,2,3,3,4,1,2,2,3,2,3,3,4,2,3,3,4,3,4,4,5,1,2,2,3,2,3,3,4,2,3,3,4,3,4,4,5,2,3,3,4,3,4,4,5,3,4,4,5,4,5,5,6,1,2,2,3,2,3,3,4,2,3,3,4,3,4,4,5,2,3,3,4,3,4,4,5,3,4,4,5,4,5,5,6,2,3,3,4,3,4,4,5,3,4,4,5,4,5,5,6,3,4,4,5,4,5,5,6,4,5,5,6,5,6,6,7,1,2,2,3,2,3,3,4,2,3,3,4,3,4,4,5,2,3,3,4,3,4,4,5,3,4,4,5,4,5,5,6,2,3,3,4,3,4,4,5,3,4,4,5,4,5,5,6,3,4,4,5,4,5,5,6,4,5,5,6,5,6,6,7,2,3,3,4,3,4,4,5,3,4,4,5,4,5,5,6,3,4,4,5,4,5,5,6,4,5,5,6,5,6,6,7,3,4,4,5,4,5,5,6,4,5,5,6,5,6,6,7,4,5,5,6,5,6,6,7,5,6,6,7,6,7,7,8]⟩ : ByteArray) (a0 / 16777216)) + (bt (⟨#[0,1,1,2,1,2,2,3,1,2,2,3,2,3,3,4,1,2,2,3,2,3,3,4,2,3,3,4,3,4,4,5,1,2,2,3,2,3,3,4,2,3,3,4,3,4,4,5,2,3,3,4,3,4,4,5,3,4,4,5,4,5,5,6,1,2,2,3,2,3,3,4,2,3,3,4,3,4,4,5,2,3,3,4,3,4,4,5,3,4,4,5,4,5,5,6,2,3,3,4,3,4,4,5,3,4,4,5,4,5,5,6,3,4,4,5,4,5,5,6,4,5,5,6,5,6,6,7,1,2,2,3,2,3,3,4,2,3,3,4,3,4,4,5,2,3,3,4,3,4,4,5,3,4,4,5,4,5,5,6,2,3,3,4,3,4,4,5,3,4,4,5,4,5,5,6,3,4,4,5,4,5,5,6,4,5,5,6,5,6,6,7,2,3,3,4,3,4,4,5,3,4,4,5,4,5,5,6,3,4,4,5,4,5,5,6,4,5,5,6,5,6,6,7,3,4,4,5,4,5,5,6,4,5,5,6,5,6,6,7,4,5,5,6,5,6,6,7,5,6,6,7,6,7,7,8]⟩ : ByteArray) (Go.bits .and .u32 (a0 / 65536) 255))) % 256) + (bt (⟨#[0,1,1,2,1,2,2,3,1,2,2,3,2,3,3,4,1,2,2,3,2,3,3,4,2,3,3,4,3,4,4,5,1,2,2,3,2,3,3,4,2,3,3,4,3,4,4,5,2,3,3,4,3,4,4,5,3,4,4,5,4,5,5,6,1,2,2,3,2,3,3,4,2,3,3,4,3,4,4,5,2,3,3,4,3,4,4,5,3,4,4,5,4,5,5,6,2,3,3,4,3,4,4,5,3,4,4,5,4,5,5,6,3,4,4,5,4,5,5,6,4,5,5,6,5,6,6,7,1,2,2,3,2,3,3,4,2,3,3,4,3,4,4,5,2,3,3,4,3,4,4,5,3,4,4,5,4,5,5,6,2,3,3,4,3,4,4,5,3,4,4,5,4,5,5,6,3,4,4,5,4,5,5,6,4,5,5,6,5,6,6,7,2,3,3,4,3,4,4,5,3,4,4,5,4,5,5,6,3,4,4,5,4,5,5,6,4,5,5,6,5,6,6,7,3,4,4,5,4,5,5,6,4,5,5,6,5,6,6,7,4,5,5,6,5,6,6,7,5,6,6,7,6,7,7,8]⟩ : ByteArray) (Go.bits .and .u32 (a0 / 256) 255))) % 256) + (bt (⟨#[0,1,1,2,1,2,2,3,1,2,2,3,2,3,3,4,1,2,2,3,2,3,3,4,2,3,3,4,3,4,4,5,1,2,2,3,2,3,3,4,2,3,3,4,3,4,4,5,2,3,3,4,3,4,4,5,3,4,4,5,4,5,5,6,1,2,2,3,2,3,3,4,2,3,3,4,3,4,4,5,2,3,3,4,3,4,4,5,3,4,4,5,4,5,5,6,2,3,3,4,3,4,4,5,3,4,4,5,4,5,5,6,3,4,4,5,4,5,5,6,4,5,5,6,5,6,6,7,1,2,2,3,2,3,3,4,2,3,3,4,3,4,4,5,2,3,3,4,3,4,4,5,3,4,4,5,4,5,5,6,2,3,3,4,3,4,4,5,3,4,4,5,4,5,5,6,3,4,4,5,4,5,5,6,4,5,5,6,5,6,6,7,2,3,3,4,3,4,4,5,3,4,4,5,4,5,5,6,3,4,4,5,4,5,5,6,4,5,5,6,5,6,6,7,3,4,4,5,4,5,5,6,4,5,5,6,5,6,6,7,4,5,5,6,5,6,6,7,5,6,6,7,6,7,7,8]⟩ : ByteArray) (Go.bits .and .u32 a0 255))) % 256)) else (none)) else (none)) else (none)) else (none)) else (none)) else (none)) else (none)) else (none)) = some r:=h
 clear h
 obtain ⟨ji2,hji2⟩ : ∃ j_ : Int,(a0 / 16777216) = j_:=⟨_,rfl⟩
 replace H : (if 0 ≤ (ji2) then (if (ji2) < 256 then (if 0 ≤ (Go.bits .and .u32 (a0 / 65536) 255) then (if (Go.bits .and .u32 (a0 / 65536) 255) < 256 then (if 0 ≤ (Go.bits .and .u32 (a0 / 256) 255) then (if (Go.bits .and .u32 (a0 / 256) 255) < 256 then (if 0 ≤ (Go.bits .and .u32 a0 255) then (if (Go.bits .and .u32 a0 255) < 256 then (some (((((((bt (⟨#[0,1,1,2,1,2,2,3,1,2,2,3,2,3,3,4,1,2,2,3,2,3,3,4,2,3,3,4,3,4,4,5,1,2,2,3,2,3,3,4,2,3,3,4,3,4,4,5,2,3,3,4,3,4,4,5,3,4,4,5,4,5,5,6,1,2,2,3,2,3,3,4,2,3,3,4,3,4,4,5,2,3,3,4,3,4,4,5,3,4,4,5,4,5,5,6,2,3,3,4,3,4,4,5,3,4,4,5,4,5,5,6,3,4,4,5,4,5,5,6,4,5,5,6,5,6,6,7,1,2,2,3,2,3,3,4,2,3,3,4,3,4,4,5,2,3,3,4,3,4,4,5,3,4,4,5,4,5,5,6,2,3,3,4,3,4,4,5,3,4,4,5,4,5,5,6,3,4,4,5,4,5,5,6,4,5,5,6,5,6,6,7,2,3,3,4,3,4,4,5,3,4,4,5,4,5,5,6,3,4,4,5,4,5,5,6,4,5,5,6,5,6,6,7,3,4,4,5,4,5,5,6,4,5,5,6,5,6,6,7,4,5,5,6,5,6,6,7,5,6,6,7,6,7,7,8]⟩ : ByteArray) (ji2)) + (bt (⟨#[0,1,1,2,1,2,2,3,1,2,2,3,2,3,3,4,1,2,2,3,2,3,3,4,2,3,3,4,3,4,4,5,1,2,2,3,2,3,3,4,2,3,3,4,3,4,4,5,2,3,3,4,3,4,4,5,3,4,4,5,4,5,5,6,1,2,2,3,2,3,3,4,2,3,3,4,3,4,4,5,2,3,3,4,3,4,4,5,3,4,4,5,4,5,5,6,2,3,3,4,3,4,4,5,3,4,4,5,4,5,5,6,3,4,4,5,4,5,5,6,4,5,5,6,5,6,6,7,1,2,2,3,2,3,3,4,2,3,3,4,3,4,4,5,2,3,3,4,3,4,4,5,3,4,4,5,4,5,5,6,2,3,3,4,3,4,4,5,3,4,4,5,4,5,5,6,3,4,4,5,4,5,5,6,4,5,5,6,5,6,6,7,2,3,3,4,3,4,4,5,3,4,4,5,4,5,5,6,3,4,4,5,4,5,5,6,4,5,5,6,5,6,6,7,3,4,4,5,4,5,5,6,4,5,5,6,5,6,6,7,4,5,5,6,5,6,6,7,5,6,6,7,6,7,7,8]⟩ : ByteArray) (Go.bits .and .u32 (a0 / 65536) 255))) % 256) + (bt (⟨#[0,1,1,2,1,2,2,3,1,2,2,3,2,3,3,4,1,2,2,3,2,3,3,4,2,3,3,4,3,4,4,5,1,2,2,3,2,3,3,4,2,3,3,4,3,4,4,5,2,3,3,4,3,4,4,5,3,4,4,5,4,5,5,6,1,2,2,3,2,3,3,4,2,3,3,4,3,4,4,5,2,3,3,4,3,4,4,5,3,4,4,5,4,5,5,6,2,3,3,4,3,4,4,5,3,4,4,5,4,5,5,6,3,4,4,5,4,5,5,6,4,5,5,6,5,6,6,7,1,2,2,3,2,3,3,4,2,3,3,4,3,4,4,5,2,3,3,4,3,4,4,5,3,4,4,5,4,5,5,6,2,3,3,4,3,4,4,5,3,4,4,5,4,5,5,6,3,4,4,5,4,5,5,6,4,5,5,6,5,6,6,7,2,3,3,4,3,4,4,5,3,4,4,5,4,5,5,6,3,4,4,5,4,5,5,6,4,5,5,6,5,6,6,7,3,4,4,5,4,5,5,6,4,5,5,6,5,6,6,7,4,5,5,6,5,6,6,7,5,6,6,7,6,7,7,8]⟩ : ByteArray) (Go.bits .and .u32 (a0 / 256) 255))) % 256) + (bt (⟨#[0,1,1,2,1,2,2,3,1,2,2,3,2,3,3,4,1,2,2,3,2,3,3,4,2,3,3,4,3,4,4,5,1,2,2,3,2,3,3,4,2,3,3,4,3,4,4,5,2,3,3,4,3,4,4,5,3,4,4,5,4,5,5,6,1,2,2,3,2,3,3,4,2,3,3,4,3,4,4,5,2,3,3,4,3,4,4,5,3,4,4,5,4,5,5,6,2,3,3,4,3,4,4,5,3,4,4,5,4,5,5,6,3,4,4,5,4,5,5,6,4,5,5,6,5,6,6,7,1,2,2,3,2,3,3,4,2,3,3,4,3,4,4,5,2,3,3,4,3,4,4,5,3,4,4,5,4,5,5,6,2,3,3,4,3,4,4,5,3,4,4,5,4,5,5,6,3,4,4,5,4,5,5,6,4,5,5,6,5,6,6,7,2,3,3,4,3,4,4,5,3,4,4,5,4,5,5,6,3,4,4,5,4,5,5,6,4,5,5,6,5,6,6,7,3,4,4,5,4,5,5,6,4,5,5,6,5,6,6,7,4,5,5,6,5,6,6,7,5,6,6,7,6,7,7,8]⟩ : ByteArray) (Go.bits .and .u32 a0 255))) % 256)) else (none)) else (none)) else (none)) else (none)) else (none)) else (none)) else (none)) else (none)) = some r:=by first|(rw [hji2] at H;exact H)|(simp only [hji2] at H ⊢; exact H)
 by_cases c3 : 0 ≤ (ji2)
 rotate_left
 ·rw [if_neg c3] at H
  exact absurd H (by simp)
 rw [if_pos c3] at H
 have c3b0 : decide (0 ≤ (ji2)) = true:=decide_eq_true c3
 clear c3
 by_cases c4 : (ji2) < 256
 rotate_left
 ·rw [if_neg c4] at H
  exact absurd H (by simp)
 rw [if_pos c4] at H
 have c4b0 : decide ((ji2) < 256) = true:=decide_eq_true c4
 clear c4
 obtain ⟨ji6,hji6⟩ : ∃ j_ : Int,(Go.bits .and .u32 (a0 / 65536) 255) = j_:=⟨_,rfl⟩
 replace H : (if 0 ≤ (ji6) then (if (ji6) < 256 then (if 0 ≤ (Go.bits .and .u32 (a0 / 256) 255) then (if (Go.bits .and .u32 (a0 / 256) 255) < 256 then (if 0 ≤ (Go.bits .and .u32 a0 255) then (if (Go.bits .and .u32 a0 255) < 256 then (some (((((((bt (⟨#[0,1,1,2,1,2,2,3,1,2,2,3,2,3,3,4,1,2,2,3,2,3,3,4,2,3,3,4,3,4,4,5,1,2,2,3,2,3,3,4,2,3,3,4,3,4,4,5,2,3,3,4,3,4,4,5,3,4,4,5,4,5,5,6,1,2,2,3,2,3,3,4,2,3,3,4,3,4,4,5,2,3,3,4,3,4,4,5,3,4,4,5,4,5,5,6,2,3,3,4,3,4,4,5,3,4,4,5,4,5,5,6,3,4,4,5,4,5,5,6,4,5,5,6,5,6,6,7,1,2,2,3,2,3,3,4,2,3,3,4,3,4,4,5,2,3,3,4,3,4,4,5,3,4,4,5,4,5,5,6,2,3,3,4,3,4,4,5,3,4,4,5,4,5,5,6,3,4,4,5,4,5,5,6,4,5,5,6,5,6,6,7,2,3,3,4,3,4,4,5,3,4,4,5,4,5,5,6,3,4,4,5,4,5,5,6,4,5,5,6,5,6,6,7,3,4,4,5,4,5,5,6,4,5,5,6,5,6,6,7,4,5,5,6,5,6,6,7,5,6,6,7,6,7,7,8]⟩ : ByteArray) (ji2)) + (bt (⟨#[0,1,1,2,1,2,2,3,1,2,2,3,2,3,3,4,1,2,2,3,2,3,3,4,2,3,3,4,3,4,4,5,1,2,2,3,2,3,3,4,2,3,3,4,3,4,4,5,2,3,3,4,3,4,4,5,3,4,4,5,4,5,5,6,1,2,2,3,2,3,3,4,2,3,3,4,3,4,4,5,2,3,3,4,3,4,4,5,3,4,4,5,4,5,5,6,2,3,3,4,3,4,4,5,3,4,4,5,4,5,5,6,3,4,4,5,4,5,5,6,4,5,5,6,5,6,6,7,1,2,2,3,2,3,3,4,2,3,3,4,3,4,4,5,2,3,3,4,3,4,4,5,3,4,4,5,4,5,5,6,2,3,3,4,3,4,4,5,3,4,4,5,4,5,5,6,3,4,4,5,4,5,5,6,4,5,5,6,5,6,6,7,2,3,3,4,3,4,4,5,3,4,4,5,4,5,5,6,3,4,4,5,4,5,5,6,4,5,5,6,5,6,6,7,3,4,4,5,4,5,5,6,4,5,5,6,5,6,6,7,4,5,5,6,5,6,6,7,5,6,6,7,6,7,7,8]⟩ : ByteArray) (ji6))) % 256) + (bt (⟨#[0,1,1,2,1,2,2,3,1,2,2,3,2,3,3,4,1,2,2,3,2,3,3,4,2,3,3,4,3,4,4,5,1,2,2,3,2,3,3,4,2,3,3,4,3,4,4,5,2,3,3,4,3,4,4,5,3,4,4,5,4,5,5,6,1,2,2,3,2,3,3,4,2,3,3,4,3,4,4,5,2,3,3,4,3,4,4,5,3,4,4,5,4,5,5,6,2,3,3,4,3,4,4,5,3,4,4,5,4,5,5,6,3,4,4,5,4,5,5,6,4,5,5,6,5,6,6,7,1,2,2,3,2,3,3,4,2,3,3,4,3,4,4,5,2,3,3,4,3,4,4,5,3,4,4,5,4,5,5,6,2,3,3,4,3,4,4,5,3,4,4,5,4,5,5,6,3,4,4,5,4,5,5,6,4,5,5,6,5,6,6,7,2,3,3,4,3,4,4,5,3,4,4,5,4,5,5,6,3,4,4,5,4,5,5,6,4,5,5,6,5,6,6,7,3,4,4,5,4,5,5,6,4,5,5,6,5,6,6,7,4,5,5,6,5,6,6,7,5,6,6,7,6,7,7,8]⟩ : ByteArray) (Go.bits .and .u32 (a0 / 256) 255))) % 256) + (bt (⟨#[0,1,1,2,1,2,2,3,1,2,2,3,2,3,3,4,1,2,2,3,2,3,3,4,2,3,3,4,3,4,4,5,1,2,2,3,2,3,3,4,2,3,3,4,3,4,4,5,2,3,3,4,3,4,4,5,3,4,4,5,4,5,5,6,1,2,2,3,2,3,3,4,2,3,3,4,3,4,4,5,2,3,3,4,3,4,4,5,3,4,4,5,4,5,5,6,2,3,3,4,3,4,4,5,3,4,4,5,4,5,5,6,3,4,4,5,4,5,5,6,4,5,5,6,5,6,6,7,1,2,2,3,2,3,3,4,2,3,3,4,3,4,4,5,2,3,3,4,3,4,4,5,3,4,4,5,4,5,5,6,2,3,3,4,3,4,4,5,3,4,4,5,4,5,5,6,3,4,4,5,4,5,5,6,4,5,5,6,5,6,6,7,2,3,3,4,3,4,4,5,3,4,4,5,4,5,5,6,3,4,4,5,4,5,5,6,4,5,5,6,5,6,6,7,3,4,4,5,4,5,5,6,4,5,5,6,5,6,6,7,4,5,5,6,5,6,6,7,5,6,6,7,6,7,7,8]⟩ : ByteArray) (Go.bits .and .u32 a0 255))) % 256)) else (none)) else (none)) else (none)) else (none)) else (none)) else (none)) = some r:=by first|(rw [hji6] at H;exact H)|(simp only [hji6] at H ⊢; exact H)
 by_cases c7 : 0 ≤ (ji6)
 rotate_left
 ·rw [if_neg c7] at H
  exact absurd H (by simp)
 rw [if_pos c7] at H
 have c7b0 : decide (0 ≤ (ji6)) = true:=decide_eq_true c7
 clear c7
 by_cases c8 : (ji6) < 256
 rotate_left
 ·rw [if_neg c8] at H
  exact absurd H (by simp)
 rw [if_pos c8] at H
 have c8b0 : decide ((ji6) < 256) = true:=decide_eq_true c8
 clear c8
 obtain ⟨ji10,hji10⟩ : ∃ j_ : Int,(Go.bits .and .u32 (a0 / 256) 255) = j_:=⟨_,rfl⟩
 replace H : (if 0 ≤ (ji10) then (if (ji10) < 256 then (if 0 ≤ (Go.bits .and .u32 a0 255) then (if (Go.bits .and .u32 a0 255) < 256 then (some (((((((bt (⟨#[0,1,1,2,1,2,2,3,1,2,2,3,2,3,3,4,1,2,2,3,2,3,3,4,2,3,3,4,3,4,4,5,1,2,2,3,2,3,3,4,2,3,3,4,3,4,4,5,2,3,3,4,3,4,4,5,3,4,4,5,4,5,5,6,1,2,2,3,2,3,3,4,2,3,3,4,3,4,4,5,2,3,3,4,3,4,4,5,3,4,4,5,4,5,5,6,2,3,3,4,3,4,4,5,3,4,4,5,4,5,5,6,3,4,4,5,4,5,5,6,4,5,5,6,5,6,6,7,1,2,2,3,2,3,3,4,2,3,3,4,3,4,4,5,2,3,3,4,3,4,4,5,3,4,4,5,4,5,5,6,2,3,3,4,3,4,4,5,3,4,4,5,4,5,5,6,3,4,4,5,4,5,5,6,4,5,5,6,5,6,6,7,2,3,3,4,3,4,4,5,3,4,4,5,4,5,5,6,3,4,4,5,4,5,5,6,4,5,5,6,5,6,6,7,3,4,4,5,4,5,5,6,4,5,5,6,5,6,6,7,4,5,5,6,5,6,6,7,5,6,6,7,6,7,7,8]⟩ : ByteArray) (ji2)) + (bt (⟨#[0,1,1,2,1,2,2,3,1,2,2,3,2,3,3,4,1,2,2,3,2,3,3,4,2,3,3,4,3,4,4,5,1,2,2,3,2,3,3,4,2,3,3,4,3,4,4,5,2,3,3,4,3,4,4,5,3,4,4,5,4,5,5,6,1,2,2,3,2,3,3,4,2,3,3,4,3,4,4,5,2,3,3,4,3,4,4,5,3,4,4,5,4,5,5,6,2,3,3,4,3,4,4,5,3,4,4,5,4,5,5,6,3,4,4,5,4,5,5,6,4,5,5,6,5,6,6,7,1,2,2,3,2,3,3,4,2,3,3,4,3,4,4,5,2,3,3,4,3,4,4,5,3,4,4,5,4,5,5,6,2,3,3,4,3,4,4,5,3,4,4,5,4,5,5,6,3,4,4,5,4,5,5,6,4,5,5,6,5,6,6,7,2,3,3,4,3,4,4,5,3,4,4,5,4,5,5,6,3,4,4,5,4,5,5,6,4,5,5,6,5,6,6,7,3,4,4,5,4,5,5,6,4,5,5,6,5,6,6,7,4,5,5,6,5,6,6,7,5,6,6,7,6,7,7,8]⟩ : ByteArray) (ji6))) % 256) + (bt (⟨#[0,1,1,2,1,2,2,3,1,2,2,3,2,3,3,4,1,2,2,3,2,3,3,4,2,3,3,4,3,4,4,5,1,2,2,3,2,3,3,4,2,3,3,4,3,4,4,5,2,3,3,4,3,4,4,5,3,4,4,5,4,5,5,6,1,2,2,3,2,3,3,4,2,3,3,4,3,4,4,5,2,3,3,4,3,4,4,5,3,4,4,5,4,5,5,6,2,3,3,4,3,4,4,5,3,4,4,5,4,5,5,6,3,4,4,5,4,5,5,6,4,5,5,6,5,6,6,7,1,2,2,3,2,3,3,4,2,3,3,4,3,4,4,5,2,3,3,4,3,4,4,5,3,4,4,5,4,5,5,6,2,3,3,4,3,4,4,5,3,4,4,5,4,5,5,6,3,4,4,5,4,5,5,6,4,5,5,6,5,6,6,7,2,3,3,4,3,4,4,5,3,4,4,5,4,5,5,6,3,4,4,5,4,5,5,6,4,5,5,6,5,6,6,7,3,4,4,5,4,5,5,6,4,5,5,6,5,6,6,7,4,5,5,6,5,6,6,7,5,6,6,7,6,7,7,8]⟩ : ByteArray) (ji10))) % 256) + (bt (⟨#[0,1,1,2,1,2,2,3,1,2,2,3,2,3,3,4,1,2,2,3,2,3,3,4,2,3,3,4,3,4,4,5,1,2,2,3,2,3,3,4,2,3,3,4,3,4,4,5,2,3,3,4,3,4,4,5,3,4,4,5,4,5,5,6,1,2,2,3,2,3,3,4,2,3,3,4,3,4,4,5,2,3,3,4,3,4,4,5,3,4,4,5,4,5,5,6,2,3,3,4,3,4,4,5,3,4,4,5,4,5,5,6,3,4,4,5,4,5,5,6,4,5,5,6,5,6,6,7,1,2,2,3,2,3,3,4,2,3,3,4,3,4,4,5,2,3,3,4,3,4,4,5,3,4,4,5,4,5,5,6,2,3,3,4,3,4,4,5,3,4,4,5,4,5,5,6,3,4,4,5,4,5,5,6,4,5,5,6,5,6,6,7,2,3,3,4,3,4,4,5,3,4,4,5,4,5,5,6,3,4,4,5,4,5,5,6,4,5,5,6,5,6,6,7,3,4,4,5,4,5,5,6,4,5,5,6,5,6,6,7,4,5,5,6,5,6,6,7,5,6,6,7,6,7,7,8]⟩ : ByteArray) (Go.bits .and .u32 a0 255))) % 256)) else (none)) else (none)) else (none)) else (none)) = some r:=by first|(rw [hji10] at H;exact H)|(simp only [hji10] at H ⊢; exact H)
 by_cases c11 : 0 ≤ (ji10)
 rotate_left
 ·rw [if_neg c11] at H
  exact absurd H (by simp)
 rw [if_pos c11] at H
 have c11b0 : decide (0 ≤ (ji10)) = true:=decide_eq_true c11
 clear c11
 by_cases c12 : (ji10) < 256
 rotate_left
 ·rw [if_neg c12] at H
  exact absurd H (by simp)
 rw [if_pos c12] at H
 have c12b0 : decide ((ji10) < 256) = true:=decide_eq_true c12
 clear c12
 by_cases c14 : 0 ≤ (Go.bits .and .u32 a0 255)
 rotate_left
 ·rw [if_neg c14] at H
  exact absurd H (by simp)
 rw [if_pos c14] at H
 have c14b0 : decide (0 ≤ (Go.bits .and .u32 a0 255)) = true:=decide_eq_true c14
 clear c14
 by_cases c15 : (Go.bits .and .u32 a0 255) < 256
 rotate_left
 ·rw [if_neg c15] at H
  exact absurd H (by simp)
 rw [if_pos c15] at H
 have c15b0 : decide ((Go.bits .and .u32 a0 255) < 256) = true:=decide_eq_true c15
 clear c15
 obtain rfl:=Option.some.inj H
 have p5 : 0 ≤ ((ji2) : Int):=of_decide_eq_true (by first|(with_reducible assumption)|assumption)
 have q5 : (ji2) < (256 : Int):=of_decide_eq_true (by first|(with_reducible assumption)|assumption)
 have hx5:=g_4 (⟨#[0,1,1,2,1,2,2,3,1,2,2,3,2,3,3,4,1,2,2,3,2,3,3,4,2,3,3,4,3,4,4,5,1,2,2,3,2,3,3,4,2,3,3,4,3,4,4,5,2,3,3,4,3,4,4,5,3,4,4,5,4,5,5,6,1,2,2,3,2,3,3,4,2,3,3,4,3,4,4,5,2,3,3,4,3,4,4,5,3,4,4,5,4,5,5,6,2,3,3,4,3,4,4,5,3,4,4,5,4,5,5,6,3,4,4,5,4,5,5,6,4,5,5,6,5,6,6,7,1,2,2,3,2,3,3,4,2,3,3,4,3,4,4,5,2,3,3,4,3,4,4,5,3,4,4,5,4,5,5,6,2,3,3,4,3,4,4,5,3,4,4,5,4,5,5,6,3,4,4,5,4,5,5,6,4,5,5,6,5,6,6,7,2,3,3,4,3,4,4,5,3,4,4,5,4,5,5,6,3,4,4,5,4,5,5,6,4,5,5,6,5,6,6,7,3,4,4,5,4,5,5,6,4,5,5,6,5,6,6,7,4,5,5,6,5,6,6,7,5,6,6,7,6,7,7,8]⟩ : ByteArray) (ji2)
 replace p5:=eq_true p5
 replace q5:=eq_true q5
 have p9 : 0 ≤ ((ji6) : Int):=of_decide_eq_true (by first|(with_reducible assumption)|assumption)
 have q9 : (ji6) < (256 : Int):=of_decide_eq_true (by first|(with_reducible assumption)|assumption)
 have hx9:=g_4 (⟨#[0,1,1,2,1,2,2,3,1,2,2,3,2,3,3,4,1,2,2,3,2,3,3,4,2,3,3,4,3,4,4,5,1,2,2,3,2,3,3,4,2,3,3,4,3,4,4,5,2,3,3,4,3,4,4,5,3,4,4,5,4,5,5,6,1,2,2,3,2,3,3,4,2,3,3,4,3,4,4,5,2,3,3,4,3,4,4,5,3,4,4,5,4,5,5,6,2,3,3,4,3,4,4,5,3,4,4,5,4,5,5,6,3,4,4,5,4,5,5,6,4,5,5,6,5,6,6,7,1,2,2,3,2,3,3,4,2,3,3,4,3,4,4,5,2,3,3,4,3,4,4,5,3,4,4,5,4,5,5,6,2,3,3,4,3,4,4,5,3,4,4,5,4,5,5,6,3,4,4,5,4,5,5,6,4,5,5,6,5,6,6,7,2,3,3,4,3,4,4,5,3,4,4,5,4,5,5,6,3,4,4,5,4,5,5,6,4,5,5,6,5,6,6,7,3,4,4,5,4,5,5,6,4,5,5,6,5,6,6,7,4,5,5,6,5,6,6,7,5,6,6,7,6,7,7,8]⟩ : ByteArray) (ji6)
 replace p9:=eq_true p9
 replace q9:=eq_true q9
 have p13 : 0 ≤ ((ji10) : Int):=of_decide_eq_true (by first|(with_reducible assumption)|assumption)
 have q13 : (ji10) < (256 : Int):=of_decide_eq_true (by first|(with_reducible assumption)|assumption)
 have hx13:=g_4 (⟨#[0,1,1,2,1,2,2,3,1,2,2,3,2,3,3,4,1,2,2,3,2,3,3,4,2,3,3,4,3,4,4,5,1,2,2,3,2,3,3,4,2,3,3,4,3,4,4,5,2,3,3,4,3,4,4,5,3,4,4,5,4,5,5,6,1,2,2,3,2,3,3,4,2,3,3,4,3,4,4,5,2,3,3,4,3,4,4,5,3,4,4,5,4,5,5,6,2,3,3,4,3,4,4,5,3,4,4,5,4,5,5,6,3,4,4,5,4,5,5,6,4,5,5,6,5,6,6,7,1,2,2,3,2,3,3,4,2,3,3,4,3,4,4,5,2,3,3,4,3,4,4,5,3,4,4,5,4,5,5,6,2,3,3,4,3,4,4,5,3,4,4,5,4,5,5,6,3,4,4,5,4,5,5,6,4,5,5,6,5,6,6,7,2,3,3,4,3,4,4,5,3,4,4,5,4,5,5,6,3,4,4,5,4,5,5,6,4,5,5,6,5,6,6,7,3,4,4,5,4,5,5,6,4,5,5,6,5,6,6,7,4,5,5,6,5,6,6,7,5,6,6,7,6,7,7,8]⟩ : ByteArray) (ji10)
 replace p13:=eq_true p13
 replace q13:=eq_true q13
 have p16 : 0 ≤ ((Go.bits .and .u32 a0 255) : Int):=of_decide_eq_true (by first|(with_reducible assumption)|assumption)
 have q16 : (Go.bits .and .u32 a0 255) < (256 : Int):=of_decide_eq_true (by first|(with_reducible assumption)|assumption)
 have hx16:=g_4 (⟨#[0,1,1,2,1,2,2,3,1,2,2,3,2,3,3,4,1,2,2,3,2,3,3,4,2,3,3,4,3,4,4,5,1,2,2,3,2,3,3,4,2,3,3,4,3,4,4,5,2,3,3,4,3,4,4,5,3,4,4,5,4,5,5,6,1,2,2,3,2,3,3,4,2,3,3,4,3,4,4,5,2,3,3,4,3,4,4,5,3,4,4,5,4,5,5,6,2,3,3,4,3,4,4,5,3,4,4,5,4,5,5,6,3,4,4,5,4,5,5,6,4,5,5,6,5,6,6,7,1,2,2,3,2,3,3,4,2,3,3,4,3,4,4,5,2,3,3,4,3,4,4,5,3,4,4,5,4,5,5,6,2,3,3,4,3,4,4,5,3,4,4,5,4,5,5,6,3,4,4,5,4,5,5,6,4,5,5,6,5,6,6,7,2,3,3,4,3,4,4,5,3,4,4,5,4,5,5,6,3,4,4,5,4,5,5,6,4,5,5,6,5,6,6,7,3,4,4,5,4,5,5,6,4,5,5,6,5,6,6,7,4,5,5,6,5,6,6,7,5,6,6,7,6,7,7,8]⟩ : ByteArray) (Go.bits .and .u32 a0 255)
 replace p16:=eq_true p16
 replace q16:=eq_true q16
 go_enter Try.func58,Try.ntmps58
 go_wp2
 repeat (go_quiet (fail);try go_wp2)
 go_ret
 exact ⟨by first|rfl|(simp;done)|(simp only [← hji2, ← hji6, ← hji10] <;> (first|rfl|simp))|(simp [*];done),by repeat (first|exact b_g.refl _|apply b_g.step)⟩
end Go.Proofs.Ytkhbffjfclepfaa.Q
end
section
namespace Go.Proofs.Ytkhbffjfclepfaa.Q
open Go.RowKit Go.Proofs.YtkhbffjfclepfaaW.PrintWords Go.Proofs.YtkhbffjfclepfaaW.PrintLast Go.Proofs.YtkhbffjfclepfaaW.PrintMore
set_option linter.unusedVariables false
set_option linter.unusedSimpArgs false
def b_V.f (a0 : Int) : Option (Int):=(b_N.f (Go.bits .and .u32 a0 255)).bind fun t509 => (some t509)
set_option maxHeartbeats 8000000 in
set_option maxRecDepth 100000 in
theorem b_V.calls (a0 : Int) (r : Int) (w : World) (h : b_V.f a0 = some r) :
 Calls Try.prog 51 #[.int .u32 a0] w fun e w' => e = .returned (.int .i64 r) ∧ b_g w w':=by
 have H : ((b_N.f (Go.bits .and .u32 a0 255)).bind fun t509 => (some t509)) = some r:=h
 clear h
 replace H:=Option.bind_eq_some_iff.mp H
 obtain ⟨t509,A20,H⟩:=H
 replace H : (some t509) = some r:=H
 have A2:=a_a.mk A20
 clear A20
 obtain rfl:=Option.some.inj H
 go_enter Try.func51,Try.ntmps51
 go_wp2_with (first|((with_reducible refine a_B (f:=58) rfl ?_);refine b_f (some 5) rfl rfl Try.func58 (by kernel_rfl) rfl #[.int .u32 (Go.bits .and .u32 a0 255)] rfl (by (try simp only [List.map_toArray,List.map_cons,List.map_nil]);first|done|rfl|(simp only [List.length_drop,List.length_take];rfl)) ?_;(with_reducible refine (b_N.calls (Go.bits .and .u32 a0 255) t509 _ A2.out).mono ?_);rintro e w' ⟨rfl,⟨nd,rfl⟩⟩;refine ⟨_,rfl,?_⟩))
 go_ret
 exact ⟨by first|rfl|(simp;done)|(simp [*];done),by repeat (first|exact b_g.refl _|apply b_g.step)⟩
end Go.Proofs.Ytkhbffjfclepfaa.Q
end
