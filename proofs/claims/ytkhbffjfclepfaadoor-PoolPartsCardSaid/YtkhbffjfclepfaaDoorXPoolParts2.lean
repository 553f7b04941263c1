/- Part 3 of 6 of what the row of PoolParts stands on: contracts over the given program's functions, the plain law, the row; no condition beyond those that each theorem states. -/
import Derived.Test.YtkhbffjfclepfaaDoorXPoolParts1
import Derived.RegionTactic
import Derived.BigRegion
import Derived.Deep.RegionLaw
import Derived.Deep.RegionWith
section
namespace Go.Proofs.YtkhbffjfclepfaaDoor.Q
open Go.RowKit Go.Proofs.YtkhbffjfclepfaaDoorW.PrintWords Go.Proofs.YtkhbffjfclepfaaDoorW.PrintLast Go.Proofs.YtkhbffjfclepfaaDoorW.PrintMore
set_option linter.unusedVariables false
set_option linter.unusedSimpArgs false
set_option maxHeartbeats 2000000 in
theorem a_7.ok (gq gs gf gn : Nat) (l : List Int) (frm s : Int) (v : Value) (base B0 : Nat) (w : World)
 (hq : w.heap[gq]? = some (.cells #[v] 26 (0,0))) (hR : Kd.R (Kd.int .u32) 32 w B0 (fun _ => True) v l)
 (hs : w.heap[gs]? = some (.cells #[.int .u32 s] 32 (0,0))) (hf : w.heap[gf]? = some (.cells #[.int .i64 frm] 3 (0,0))) (hn : w.heap[gn]? = some (.cells #[.int .i64 0] 3 (0,0)))
 (h0 : 0 ≤ frm) (h1 : frm < l.length) (hl : l.length < 35184372088832) (hB0 : ∀ g,g = gs ∨ g = gf ∨ g = gn → g < B0) (hfn : gf ≠ gn) (hB0w : B0 ≤ w.heap.size) (hbn : base ≤ gn) (hbB : base ≤ B0) (hBq : B0 ≤ gq)
 (hc : a_N.f s = some 0) (hs0 : s ≠ 0) (hw : a_Z.f s (rd l frm) = some true) (hne : s ≠ rd l frm) (h4 : l.length ≠ 4) :
 Calls Tryd.prog 19 #[.pointer (some ⟨gq,0,none⟩),.pointer (some ⟨gs,0,none⟩),.pointer (some ⟨gf,0,none⟩),.pointer (some ⟨gn,0,none⟩)] w fun e W' => e = .returned (.int .i64 0) ∧ Below base w W' ∧ W'.heap[gn]? = some (.cells #[.int .i64 l.length] 3 (0,0)) ∧ (∀ k,k < w.heap.size → k ≠ gq → k ≠ gn → some k ≠ v.ownBlock → W'.heap[k]? = w.heap[k]?) ∧ ∃ v',W'.heap[gq]? = some (.cells #[v'] 26 (0,0)) ∧ Kd.R (Kd.int .u32) 32 W' B0 (fun _ => True) v' (l.set frm.toNat (bits .andNot .u32 (rd l frm) s) ++ [s]):=by
 have HX0:=a_a.mk hB0w
 have HX1:=a_a.mk hbn
 have HX2:=a_a.mk hbB
 have HX3:=a_a.mk hBq
 clear hB0w hbn hbB hBq
 obtain ⟨go,co,rfl,hgo,hgl,cl,HG⟩:=Kd.c_o hR (by omega)
 have BKq:=a_a.mk hq
 have BKs:=a_a.mk hs
 have BKf:=a_a.mk hf
 have BKn:=a_a.mk hn
 have HO:=a_a.mk hR
 have HC:=a_a.mk hc
 have HW:=a_a.mk hw
 have cq : w.cell? ⟨gq,0,none⟩ = some (.slice (some ⟨go,0,none⟩) l.length co):=(a_h hq 0).trans rfl
 have cs : w.cell? ⟨gs,0,none⟩ = some (.int .u32 s):=(a_h hs 0).trans rfl
 have cf : w.cell? ⟨gf,0,none⟩ = some (.int .i64 frm):=(a_h hf 0).trans rfl
 have cn : w.cell? ⟨gn,0,none⟩ = some (.int .i64 0):=(a_h hn 0).trans rfl
 have fn_:=a_f hn 0
 have fq_:=a_f hq 0
 obtain ⟨ce,fe⟩:=Kd.b_M 0 hR frm h0 h1
 have n1 : ¬ gn = gq:=by have:=hB0 gn (by simp);intro e;subst e;rw [hq] at hn;cases hn
 have n2 : ¬ gs = gn:=by intro e;subst e;rw [hs] at hn;cases hn
 have n3 : ¬ gs = go:=by have:=hB0 gs (by simp);omega
 have n4 : ¬ gf = go:=by have:=hB0 gf (by simp);omega
 have n5 : ¬ gn = go:=by have:=hB0 gn (by simp);omega
 have n6 : ¬ gq = go:=by intro e;subst e;rw [hq] at HG;cases HG
 have n7 : ¬ gq = gn:=fun e => n1 e.symm
 have n8 : ¬ go = gn:=fun e => n5 e.symm
 clear hq hs hf hn hR hc hw hB0 HG
 have d1 : (s == 0) = false:=beq_eq_false_iff_ne.mpr hs0
 have d2 : (s == rd l frm) = false:=beq_eq_false_iff_ne.mpr hne
 have d3 : ((l.length : Int) == 4) = false:=beq_eq_false_iff_ne.mpr (by omega)
 have d4 : decide (0 ≤ frm) = true:=decide_eq_true h0
 have d5 : decide (frm < (l.length : Int)) = true:=decide_eq_true h1
 have d6:=eq_true h0
 have d7:=eq_true h1
 clear hs0 hne h4 h0 h1
 have e : rdOf 0 l frm = rd l frm:=rfl
 rw [e] at ce
 clear e
 go_enter Tryd.func19,Tryd.ntmps19
 go_wp2_with (first|(go_at_call 20;refine (a_N.calls s 0 _ HC.out).mono ?_;rintro e w' ⟨rfl,nd,rfl⟩))
 go_quiet (fail)
 go_wp2_with (first|(go_at_call 21;refine (a_Z.calls s _ true _ HW.out).mono ?_;rintro e w' ⟨rfl,nd2,rfl⟩))
 go_region
 have HO2 : a_a (Kd.R (Kd.int .u32) 32 (((w.drewN (nd + nq + nd2)).setCell ⟨gn,0,none⟩ (.int .i64 l.length)).setCell ⟨go,frm.toNat,none⟩ (.int .u32 (bits .andNot .u32 (rd l frm) s))).drew B0 (fun _ => True) (.slice (some ⟨go,0,none⟩) l.length co) (l.set frm.toNat (bits .andNot .u32 (rd l frm) s))):=⟨Kd.a_P (Kd.e_I (Kd.b_2 (Kd.a_M HO.out _) (a_o BKn.out _) (by decide) 0 _) frm _)⟩
 have BKq2 : a_a ((((w.drewN (nd + nq + nd2)).setCell ⟨gn,0,none⟩ (.int .i64 l.length)).setCell ⟨go,frm.toNat,none⟩ (.int .u32 (bits .andNot .u32 (rd l frm) s))).drew.heap[gq]? = some (.cells #[.slice (some ⟨go,0,none⟩) l.length co] 26 (0,0))):=⟨a_m (a_v (a_v (a_o BKq.out _) (p:=⟨gn,0,none⟩) n7 _) (p:=⟨go,frm.toNat,none⟩) n6 _)⟩
 have BKn2 : a_a ((((w.drewN (nd + nq + nd2)).setCell ⟨gn,0,none⟩ (.int .i64 l.length)).setCell ⟨go,frm.toNat,none⟩ (.int .u32 (bits .andNot .u32 (rd l frm) s))).drew.heap[gn]? = some (.cells #[.int .i64 l.length] 3 (0,0))):=⟨a_m (a_v (a_D (cs:=#[.int .i64 0]) (a_o BKn.out _) 0 _ rfl) (p:=⟨go,frm.toNat,none⟩) n5 _)⟩
 have BKs2 : a_a ((((w.drewN (nd + nq + nd2)).setCell ⟨gn,0,none⟩ (.int .i64 l.length)).setCell ⟨go,frm.toNat,none⟩ (.int .u32 (bits .andNot .u32 (rd l frm) s))).drew.heap[gs]? = some (.cells #[.int .u32 s] 32 (0,0))):=⟨a_m (a_v (a_v (a_o BKs.out _) (p:=⟨gn,0,none⟩) n2 _) (p:=⟨go,frm.toNat,none⟩) n3 _)⟩
 have HX : a_a (B0 ≤ (((w.drewN (nd + nq + nd2)).setCell ⟨gn,0,none⟩ (.int .i64 l.length)).setCell ⟨go,frm.toNat,none⟩ (.int .u32 (bits .andNot .u32 (rd l frm) s))).drew.drew.heap.size):=⟨by have:=HX0.out;simpa [World.setCell] using this⟩
 have FB : a_a (Below base w (((w.drewN (nd + nq + nd2)).setCell ⟨gn,0,none⟩ (.int .i64 l.length)).setCell ⟨go,frm.toNat,none⟩ (.int .u32 (bits .andNot .u32 (rd l frm) s))).drew):=⟨(((Below.refl base w).trans (a_c (Below.refl _ _) (nd + nq + nd2) |>.mono (Nat.le_trans HX2.out HX0.out))).setCell (p:=⟨gn,0,none⟩) HX1.out _ |>.setCell (p:=⟨go,frm.toNat,none⟩) (Nat.le_trans HX2.out hgo) _).drew⟩
 have FK : a_a (∀ k,k ≠ gn → k ≠ go → (((w.drewN (nd + nq + nd2)).setCell ⟨gn,0,none⟩ (.int .i64 l.length)).setCell ⟨go,frm.toNat,none⟩ (.int .u32 (bits .andNot .u32 (rd l frm) s))).drew.heap[k]? = w.heap[k]?):=⟨fun k k1 k2 => (Below.heap_setCell _ ⟨go,frm.toNat,none⟩ _ k k2).trans (Below.heap_setCell _ ⟨gn,0,none⟩ _ k k1)⟩
 have FS : a_a ((((w.drewN (nd + nq + nd2)).setCell ⟨gn,0,none⟩ (.int .i64 l.length)).setCell ⟨go,frm.toNat,none⟩ (.int .u32 (bits .andNot .u32 (rd l frm) s))).drew.heap.size = w.heap.size):=⟨by simp [World.setCell]⟩
 generalize (((w.drewN (nd + nq + nd2)).setCell ⟨gn,0,none⟩ (.int .i64 l.length)).setCell ⟨go,frm.toNat,none⟩ (.int .u32 (bits .andNot .u32 (rd l frm) s))).drew = w2 at HO2 BKq2 BKn2 BKs2 HX FB FK FS ⊢
 clear cq cs cf cn ce
 have cq : w2.cell? ⟨gq,0,none⟩ = some (.slice (some ⟨go,0,none⟩) l.length co):=(a_h BKq2.out 0).trans rfl
 have cs : w2.cell? ⟨gs,0,none⟩ = some (.int .u32 s):=(a_h BKs2.out 0).trans rfl
 go_wp2
 have HL:=a_a.mk hl
 have fq2:=a_f BKq2.out 0
 clear fe fn_ fq_ hl
 have cq3 : (w2.alloc (.cells #[.int .u32 s] 32)).cell? ⟨gq,0,none⟩ = some (.slice (some ⟨go,0,none⟩) l.length co):=(a_h (a_p BKq2.out _) 0).trans rfl
 go_region_law (refine Kd.d_P (Kd.int .u32) (w0:=w2) (W:=w2.drew) B0 rfl (.tmp 59) (.tmp 61) 24 32 (.int .u32 0) 4 rfl Tryd.underlying24 f_2 rfl (by decide) (by decide) (.slice (some ⟨go,0,none⟩) l.length co) (l.set frm.toNat (bits .andNot .u32 (rd l frm) s)) s [.int .u32 s] (fun _ => True) (fun _ => False) rfl rfl rfl (fun _ h => h.elim) (fun _ _ => trivial) (Kd.a_P HO2.out) (Below.drew (Below.refl _ _)) HX.out (by have:=HL.out;simp;omega) ?_;intro v1 w1 ho1 hb1 hg1 hat1;obtain ⟨A1,c1,e1⟩:=Kd.a_W ho1;subst e1;have fq1:=a_f (b_7 (a_m BKq2.out) hg1 (Kd.R_ne HO2.out BKq2.out (by decide))) 0;have cq1 : w1.cell? ⟨gq,0,none⟩ = some (.slice (some ⟨go,0,none⟩) l.length co):=(a_h (b_7 (a_m BKq2.out) hg1 (Kd.R_ne HO2.out BKq2.out (by decide))) 0).trans rfl)
 all_goals
  go_wp2
  go_ret
  refine ⟨rfl,?_,?_,?_,.slice A1 (l.length + 1) c1,?_,?_⟩
  ·exact (FB.out.trans (hb1.mono HX2.out)).setCell (p:=⟨gq,0,none⟩) (Nat.le_trans HX2.out HX3.out) _
  ·exact a_v (b_7 (g:=gn) (a_m BKn2.out) hg1 (fun e_ => n5 (Option.some.inj e_))) (p:=⟨gq,0,none⟩) n1 _
  ·intro k_ k1 k2 k3 k4
   refine (Below.heap_setCell _ ⟨gq,0,none⟩ _ k_ k2).trans ((hg1.block k_ (by show k_ < w2.heap.size;rw [FS.out];exact k1) k4).trans (FK.out k_ k3 (fun e_ => k4 (by rw [e_];rfl))))
  ·exact a_D (cs:=#[.slice (some ⟨go,0,none⟩) l.length co]) (b_7 (a_m BKq2.out) hg1 (Kd.R_ne HO2.out BKq2.out (by decide))) 0 _ rfl
  ·rw [← show (l.set frm.toNat (bits .andNot .u32 (rd l frm) s) ++ [s]).length = l.length + 1 from by simp]
   exact Kd.b_2 ho1 (b_7 (a_m BKq2.out) hg1 (Kd.R_ne HO2.out BKq2.out (by decide))) (by decide) 0 _
set_option maxHeartbeats 2000000 in
theorem a_7.g_T (gq gs gf gn : Nat) (l : List Int) (frm s : Int) (v : Value) (B0 : Nat) (w : World)
 (hq : w.heap[gq]? = some (.cells #[v] 26 (0,0))) (hR : Kd.R (Kd.int .u32) 32 w B0 (fun _ => True) v l)
 (hs : w.heap[gs]? = some (.cells #[.int .u32 s] 32 (0,0))) (hf : w.heap[gf]? = some (.cells #[.int .i64 frm] 3 (0,0)))
 (h0 : 0 ≤ frm) (h1 : frm < l.length) (hl : l.length < 35184372088832) (c : Int) (hc : a_N.f s = some c) (hc0 : c ≠ 0) :
 Calls Tryd.prog 19 #[.pointer (some ⟨gq,0,none⟩),.pointer (some ⟨gs,0,none⟩),.pointer (some ⟨gf,0,none⟩),.pointer (some ⟨gn,0,none⟩)] w fun e W' => e = .returned (.int .i64 c) ∧ ∃ n,W' = w.drewN n:=by
 obtain ⟨go,co,rfl,hgo,hgl,cl,HG⟩:=Kd.c_o hR (by omega)
 have cq : w.cell? ⟨gq,0,none⟩ = some (.slice (some ⟨go,0,none⟩) l.length co):=(a_h hq 0).trans rfl
 have cs : w.cell? ⟨gs,0,none⟩ = some (.int .u32 s):=(a_h hs 0).trans rfl
 have cf : w.cell? ⟨gf,0,none⟩ = some (.int .i64 frm):=(a_h hf 0).trans rfl
 obtain ⟨ce,fe⟩:=Kd.b_M 0 hR frm h0 h1
 clear hq hs hf hR HG
 have d4 : decide (0 ≤ frm) = true:=decide_eq_true h0
 have d5 : decide (frm < (l.length : Int)) = true:=decide_eq_true h1
 have d6:=eq_true h0
 have d7:=eq_true h1
 have HC:=a_a.mk hc
 have d1 : (c != 0) = true:=bne_iff_ne.mpr hc0
 clear hc hc0 h0 h1
 have e : rdOf 0 l frm = rd l frm:=rfl
 rw [e] at ce
 clear e
 go_enter Tryd.func19,Tryd.ntmps19
 go_wp2_with (first|(go_at_call 20;refine (a_N.calls s c _ HC.out).mono ?_;rintro e w' ⟨rfl,nd,rfl⟩))
 go_ret
 exact ⟨rfl,_,rfl⟩
set_option maxHeartbeats 2000000 in
theorem a_7.empty (gq gs gf gn : Nat) (l : List Int) (frm s : Int) (v : Value) (B0 : Nat) (w : World)
 (hq : w.heap[gq]? = some (.cells #[v] 26 (0,0))) (hR : Kd.R (Kd.int .u32) 32 w B0 (fun _ => True) v l)
 (hs : w.heap[gs]? = some (.cells #[.int .u32 s] 32 (0,0))) (hf : w.heap[gf]? = some (.cells #[.int .i64 frm] 3 (0,0)))
 (h0 : 0 ≤ frm) (h1 : frm < l.length) (hl : l.length < 35184372088832) (hc : a_N.f s = some 0) (hs0 : s = 0) :
 Calls Tryd.prog 19 #[.pointer (some ⟨gq,0,none⟩),.pointer (some ⟨gs,0,none⟩),.pointer (some ⟨gf,0,none⟩),.pointer (some ⟨gn,0,none⟩)] w fun e W' => e = .returned (.int .i64 2) ∧ ∃ n,W' = w.drewN n:=by
 obtain ⟨go,co,rfl,hgo,hgl,cl,HG⟩:=Kd.c_o hR (by omega)
 have cq : w.cell? ⟨gq,0,none⟩ = some (.slice (some ⟨go,0,none⟩) l.length co):=(a_h hq 0).trans rfl
 have cs : w.cell? ⟨gs,0,none⟩ = some (.int .u32 s):=(a_h hs 0).trans rfl
 have cf : w.cell? ⟨gf,0,none⟩ = some (.int .i64 frm):=(a_h hf 0).trans rfl
 obtain ⟨ce,fe⟩:=Kd.b_M 0 hR frm h0 h1
 clear hq hs hf hR HG
 have d4 : decide (0 ≤ frm) = true:=decide_eq_true h0
 have d5 : decide (frm < (l.length : Int)) = true:=decide_eq_true h1
 have d6:=eq_true h0
 have d7:=eq_true h1
 have HC:=a_a.mk hc
 subst hs0
 clear hc h0 h1
 have e : rdOf 0 l frm = rd l frm:=rfl
 rw [e] at ce
 clear e
 go_enter Tryd.func19,Tryd.ntmps19
 go_wp2_with (first|(go_at_call 20;refine (a_N.calls 0 0 _ HC.out).mono ?_;rintro e w' ⟨rfl,nd,rfl⟩))
 go_quiet (fail)
 go_wp2
 go_ret
 exact ⟨rfl,_,rfl⟩
set_option maxHeartbeats 2000000 in
theorem a_7.outside (gq gs gf gn : Nat) (l : List Int) (frm s : Int) (v : Value) (B0 : Nat) (w : World)
 (hq : w.heap[gq]? = some (.cells #[v] 26 (0,0))) (hR : Kd.R (Kd.int .u32) 32 w B0 (fun _ => True) v l)
 (hs : w.heap[gs]? = some (.cells #[.int .u32 s] 32 (0,0))) (hf : w.heap[gf]? = some (.cells #[.int .i64 frm] 3 (0,0)))
 (h0 : 0 ≤ frm) (h1 : frm < l.length) (hl : l.length < 35184372088832) (hc : a_N.f s = some 0) (hs0 : s ≠ 0) (hw : a_Z.f s (rd l frm) = some false) :
 Calls Tryd.prog 19 #[.pointer (some ⟨gq,0,none⟩),.pointer (some ⟨gs,0,none⟩),.pointer (some ⟨gf,0,none⟩),.pointer (some ⟨gn,0,none⟩)] w fun e W' => e = .returned (.int .i64 2) ∧ ∃ n,W' = w.drewN n:=by
 obtain ⟨go,co,rfl,hgo,hgl,cl,HG⟩:=Kd.c_o hR (by omega)
 have cq : w.cell? ⟨gq,0,none⟩ = some (.slice (some ⟨go,0,none⟩) l.length co):=(a_h hq 0).trans rfl
 have cs : w.cell? ⟨gs,0,none⟩ = some (.int .u32 s):=(a_h hs 0).trans rfl
 have cf : w.cell? ⟨gf,0,none⟩ = some (.int .i64 frm):=(a_h hf 0).trans rfl
 obtain ⟨ce,fe⟩:=Kd.b_M 0 hR frm h0 h1
 clear hq hs hf hR HG
 have d4 : decide (0 ≤ frm) = true:=decide_eq_true h0
 have d5 : decide (frm < (l.length : Int)) = true:=decide_eq_true h1
 have d6:=eq_true h0
 have d7:=eq_true h1
 have HC:=a_a.mk hc
 have HW:=a_a.mk hw
 have d1 : (s == 0) = false:=beq_eq_false_iff_ne.mpr hs0
 clear hc hw hs0 h0 h1
 have e : rdOf 0 l frm = rd l frm:=rfl
 rw [e] at ce
 clear e
 go_enter Tryd.func19,Tryd.ntmps19
 go_wp2_with (first|(go_at_call 20;refine (a_N.calls s 0 _ HC.out).mono ?_;rintro e w' ⟨rfl,nd,rfl⟩))
 go_quiet (fail)
 go_wp2_with (first|(go_at_call 21;refine (a_Z.calls s _ false _ HW.out).mono ?_;rintro e w' ⟨rfl,nd2,rfl⟩))
 go_ret
 exact ⟨rfl,_,rfl⟩
set_option maxHeartbeats 2000000 in
theorem a_7.all (gq gs gf gn : Nat) (l : List Int) (frm s : Int) (v : Value) (B0 : Nat) (w : World)
 (hq : w.heap[gq]? = some (.cells #[v] 26 (0,0))) (hR : Kd.R (Kd.int .u32) 32 w B0 (fun _ => True) v l)
 (hs : w.heap[gs]? = some (.cells #[.int .u32 s] 32 (0,0))) (hf : w.heap[gf]? = some (.cells #[.int .i64 frm] 3 (0,0)))
 (h0 : 0 ≤ frm) (h1 : frm < l.length) (hl : l.length < 35184372088832) (hc : a_N.f s = some 0) (hs0 : s ≠ 0) (hw : a_Z.f s (rd l frm) = some true) (he : s = rd l frm) :
 Calls Tryd.prog 19 #[.pointer (some ⟨gq,0,none⟩),.pointer (some ⟨gs,0,none⟩),.pointer (some ⟨gf,0,none⟩),.pointer (some ⟨gn,0,none⟩)] w fun e W' => e = .returned (.int .i64 181) ∧ ∃ n,W' = w.drewN n:=by
 obtain ⟨go,co,rfl,hgo,hgl,cl,HG⟩:=Kd.c_o hR (by omega)
 have cq : w.cell? ⟨gq,0,none⟩ = some (.slice (some ⟨go,0,none⟩) l.length co):=(a_h hq 0).trans rfl
 have cs : w.cell? ⟨gs,0,none⟩ = some (.int .u32 s):=(a_h hs 0).trans rfl
 have cf : w.cell? ⟨gf,0,none⟩ = some (.int .i64 frm):=(a_h hf 0).trans rfl
 obtain ⟨ce,fe⟩:=Kd.b_M 0 hR frm h0 h1
 clear hq hs hf hR HG
 have d4 : decide (0 ≤ frm) = true:=decide_eq_true h0
 have d5 : decide (frm < (l.length : Int)) = true:=decide_eq_true h1
 have d6:=eq_true h0
 have d7:=eq_true h1
 have HC:=a_a.mk hc
 have HW:=a_a.mk hw
 have d1 : (s == 0) = false:=beq_eq_false_iff_ne.mpr hs0
 have d2 : (s == rd l frm) = true:=beq_iff_eq.mpr he
 clear hc hw hs0 he h0 h1
 have e : rdOf 0 l frm = rd l frm:=rfl
 rw [e] at ce
 clear e
 go_enter Tryd.func19,Tryd.ntmps19
 go_wp2_with (first|(go_at_call 20;refine (a_N.calls s 0 _ HC.out).mono ?_;rintro e w' ⟨rfl,nd,rfl⟩))
 go_quiet (fail)
 go_wp2_with (first|(go_at_call 21;refine (a_Z.calls s _ true _ HW.out).mono ?_;rintro e w' ⟨rfl,nd2,rfl⟩))
 go_ret
 exact ⟨rfl,_,rfl⟩
set_option maxHeartbeats 2000000 in
theorem a_7.full (gq gs gf gn : Nat) (l : List Int) (frm s : Int) (v : Value) (B0 : Nat) (w : World)
 (hq : w.heap[gq]? = some (.cells #[v] 26 (0,0))) (hR : Kd.R (Kd.int .u32) 32 w B0 (fun _ => True) v l)
 (hs : w.heap[gs]? = some (.cells #[.int .u32 s] 32 (0,0))) (hf : w.heap[gf]? = some (.cells #[.int .i64 frm] 3 (0,0)))
 (h0 : 0 ≤ frm) (h1 : frm < l.length) (hl : l.length < 35184372088832) (hc : a_N.f s = some 0) (hs0 : s ≠ 0) (hw : a_Z.f s (rd l frm) = some true) (he : s ≠ rd l frm) (h4 : l.length = 4) :
 Calls Tryd.prog 19 #[.pointer (some ⟨gq,0,none⟩),.pointer (some ⟨gs,0,none⟩),.pointer (some ⟨gf,0,none⟩),.pointer (some ⟨gn,0,none⟩)] w fun e W' => e = .returned (.int .i64 6) ∧ ∃ n,W' = w.drewN n:=by
 obtain ⟨go,co,rfl,hgo,hgl,cl,HG⟩:=Kd.c_o hR (by omega)
 have cq : w.cell? ⟨gq,0,none⟩ = some (.slice (some ⟨go,0,none⟩) l.length co):=(a_h hq 0).trans rfl
 have cs : w.cell? ⟨gs,0,none⟩ = some (.int .u32 s):=(a_h hs 0).trans rfl
 have cf : w.cell? ⟨gf,0,none⟩ = some (.int .i64 frm):=(a_h hf 0).trans rfl
 obtain ⟨ce,fe⟩:=Kd.b_M 0 hR frm h0 h1
 clear hq hs hf hR HG
 have d4 : decide (0 ≤ frm) = true:=decide_eq_true h0
 have d5 : decide (frm < (l.length : Int)) = true:=decide_eq_true h1
 have d6:=eq_true h0
 have d7:=eq_true h1
 have HC:=a_a.mk hc
 have HW:=a_a.mk hw
 have d1 : (s == 0) = false:=beq_eq_false_iff_ne.mpr hs0
 have d2 : (s == rd l frm) = false:=beq_eq_false_iff_ne.mpr he
 have d3 : ((l.length : Int) == 4) = true:=beq_iff_eq.mpr (by omega)
 clear hc hw hs0 he h4 h0 h1
 have e : rdOf 0 l frm = rd l frm:=rfl
 rw [e] at ce
 clear e
 go_enter Tryd.func19,Tryd.ntmps19
 go_wp2_with (first|(go_at_call 20;refine (a_N.calls s 0 _ HC.out).mono ?_;rintro e w' ⟨rfl,nd,rfl⟩))
 go_quiet (fail)
 go_wp2_with (first|(go_at_call 21;refine (a_Z.calls s _ true _ HW.out).mono ?_;rintro e w' ⟨rfl,nd2,rfl⟩))
 go_ret
 exact ⟨rfl,_,rfl⟩
def c_E (l : List Int) (frm s : Int) : Option (Int × List Int × Int) :=
 (a_N.f s).bind fun c => if c ≠ 0 then some (c,[],0) else if s = 0 then some (2,[],0) else (a_Z.f s (rd l frm)).bind fun b => if b = false then some (2,[],0) else if s = rd l frm then some (181,[],0) else if l.length = 4 then some (6,[],0) else some (0,l.set frm.toNat (bits .andNot .u32 (rd l frm) s) ++ [s],(l.length : Int))
theorem a_7.any (gq gs gf gn : Nat) (l : List Int) (frm s : Int) (v : Value) (base B0 : Nat) (w : World) (err n : Int) (l' : List Int)
 (hq : w.heap[gq]? = some (.cells #[v] 26 (0,0))) (hR : Kd.R (Kd.int .u32) 32 w B0 (fun _ => True) v l)
 (hs : w.heap[gs]? = some (.cells #[.int .u32 s] 32 (0,0))) (hf : w.heap[gf]? = some (.cells #[.int .i64 frm] 3 (0,0))) (hn : w.heap[gn]? = some (.cells #[.int .i64 0] 3 (0,0)))
 (h0 : 0 ≤ frm) (h1 : frm < l.length) (hl : l.length < 35184372088832) (hB0 : ∀ g,g = gs ∨ g = gf ∨ g = gn → g < B0) (hfn : gf ≠ gn) (hB0w : B0 ≤ w.heap.size) (hbn : base ≤ gn) (hbB : base ≤ B0) (hBq : B0 ≤ gq)
 (h : c_E l frm s = some (err,l',n)) :
 Calls Tryd.prog 19 #[.pointer (some ⟨gq,0,none⟩),.pointer (some ⟨gs,0,none⟩),.pointer (some ⟨gf,0,none⟩),.pointer (some ⟨gn,0,none⟩)] w fun e W' => e = .returned (.int .i64 err) ∧ Below base w W' ∧ W'.heap[gn]? = some (.cells #[.int .i64 n] 3 (0,0)) ∧ (∀ k,k < w.heap.size → k ≠ gq → k ≠ gn → some k ≠ v.ownBlock → W'.heap[k]? = w.heap[k]?) ∧ (err = 0 → ∃ v',W'.heap[gq]? = some (.cells #[v'] 26 (0,0)) ∧ Kd.R (Kd.int .u32) 32 W' B0 (fun _ => True) v' l'):=by
 have still : ∀ (er : Int),er ≠ 0 → er = err → 0 = n → ∀ (e : Ending) (W' : World),(e = .returned (.int .i64 er) ∧ ∃ m,W' = w.drewN m) → e = .returned (.int .i64 err) ∧ Below base w W' ∧ W'.heap[gn]? = some (.cells #[.int .i64 n] 3 (0,0)) ∧ (∀ k,k < w.heap.size → k ≠ gq → k ≠ gn → some k ≠ v.ownBlock → W'.heap[k]? = w.heap[k]?) ∧ (err = 0 → ∃ v',W'.heap[gq]? = some (.cells #[v'] 26 (0,0)) ∧ Kd.R (Kd.int .u32) 32 W' B0 (fun _ => True) v' l'):=by
  rintro er h1 rfl rfl e W' ⟨rfl,m,rfl⟩
  exact ⟨rfl,(a_c (Below.refl _ _) m).mono (Nat.le_trans hbB hB0w),a_o hn m,fun _ _ _ _ _ => rfl,fun h => absurd h h1⟩
 unfold c_E at h
 obtain ⟨c,hc,h⟩:=Option.bind_eq_some_iff.mp h
 by_cases c0 : c = 0
 case neg =>
  rw [if_pos c0] at h
  injection h with h;injection h with e1 h;injection h with e2 e3
  exact (a_7.g_T gq gs gf gn l frm s v B0 w hq hR hs hf h0 h1 hl c hc c0).mono (fun e W' => still c c0 e1 e3 e W')
 subst c0
 rw [if_neg (by simp)] at h
 by_cases s0 : s = 0
 ·rw [if_pos s0] at h
  injection h with h;injection h with e1 h;injection h with e2 e3
  exact (a_7.empty gq gs gf gn l frm s v B0 w hq hR hs hf h0 h1 hl hc s0).mono (fun e W' => still 2 (by decide) e1 e3 e W')
 rw [if_neg s0] at h
 obtain ⟨b,hb,h⟩:=Option.bind_eq_some_iff.mp h
 cases b
 ·rw [if_pos rfl] at h
  injection h with h;injection h with e1 h;injection h with e2 e3
  exact (a_7.outside gq gs gf gn l frm s v B0 w hq hR hs hf h0 h1 hl hc s0 hb).mono (fun e W' => still 2 (by decide) e1 e3 e W')
 rw [if_neg (by simp)] at h
 by_cases so : s = rd l frm
 ·rw [if_pos so] at h
  injection h with h;injection h with e1 h;injection h with e2 e3
  exact (a_7.all gq gs gf gn l frm s v B0 w hq hR hs hf h0 h1 hl hc s0 hb so).mono (fun e W' => still 181 (by decide) e1 e3 e W')
 rw [if_neg so] at h
 by_cases l4 : l.length = 4
 ·rw [if_pos l4] at h
  injection h with h;injection h with e1 h;injection h with e2 e3
  exact (a_7.full gq gs gf gn l frm s v B0 w hq hR hs hf h0 h1 hl hc s0 hb so l4).mono (fun e W' => still 6 (by decide) e1 e3 e W')
 rw [if_neg l4] at h
 injection h with h;injection h with e1 h;injection h with e2 e3
 subst e1 e2 e3
 refine (a_7.ok gq gs gf gn l frm s v base B0 w hq hR hs hf hn h0 h1 hl hB0 hfn hB0w hbn hbB hBq hc s0 hb so l4).mono ?_
 rintro e W' ⟨rfl,a1,a2,a3,a4⟩
 exact ⟨rfl,a1,a2,a3,fun _ => a4⟩
set_option maxHeartbeats 4000000 in
theorem a_J.does (k : Nat) (ad : Addr) (c0 : Nat) (l : List Int) (frm s err n : Int) (l' : List Int) (w : World) (hr : Kd.C (Kd.int .u32) w (some ad) l.length l) (hc : l.length ≤ c0) (hl : l.length < 35184372088832)
 (hec : a_n.f k l = some 0) (hp : a_F.f l [frm] = some true) (h0 : 0 ≤ frm) (h1 : frm < l.length) (hs : c_E l frm s = some (err,l',n)) (L : List Int) (hL : L = if err = 0 then l' else []) :
 Calls Tryd.prog 9 #[.agg #[.slice (some ad) l.length c0],.int .i64 frm,.int .u32 s] w fun e w' => ∃ v0_ : Value,e = .returned (.tuple #[.agg #[v0_],.int .i64 n,.int .i64 err]) ∧ Kd.R (Kd.int .u32) 32 w' w.heap.size (fun _ => True) v0_ L ∧ Below w.heap.size w w':=by
 have HLL:=a_a.mk hL
 clear hL
 have HR:=a_a.mk hr
 have HC:=a_a.mk hc
 have HE:=a_a.mk hec
 have HP:=a_a.mk hp
 have HL:=a_a.mk hl
 have HS:=a_a.mk hs
 have H0:=a_a.mk h0
 have H1:=a_a.mk h1
 have EG:=a_a.mk (c_2 Tryd.func19 (by kernel_rfl) rfl)
 clear hr hc hec hp hl hs h0 h1
 have HB:=a_a.mk (Below.refl w.heap.size w)
 go_enter Tryd.func9,Tryd.ntmps9
 go_wp2_with (first
  | ((with_reducible refine a_u (N:=3) rfl ?_);refine a_t ?hg (N:=3) ?hd (cs:=#[.slice (some ad) l.length c0]) (t:=26) ?hr ?_;(case hd => rfl);(case hg => rfl);(case hr => first|(go_simp;done)|(go_simp;rfl));intro gbp hg wbp hbox hb;have m0_:=a_a.mk (a_i HB.out hb);have m1_:=a_a.mk (hbox);have m2_:=a_a.mk ((by rw [hg];exact HB.out.size : w.heap.size ≤ gbp));(try clear HB);have HB:=m0_;have BKp:=m1_;have GEp:=m2_;clear m0_ m1_ m2_ hb hbox hg)
  | ((with_reducible refine a_u (N:=4) rfl ?_);refine a_t ?hg (N:=4) ?hd (cs:=#[.int .i64 frm]) (t:=3) ?hr ?_;(case hd => rfl);(case hg => rfl);(case hr => first|(go_simp;done)|(go_simp;rfl));intro gbf hg wbf hbox hb;have m0_:=a_a.mk (a_b (g:=gbp) (o:=.cells #[.slice (some ad) l.length c0] 26 (0,0)) BKp.out hb);have m1_:=a_a.mk (a_i HB.out hb);have m2_:=a_a.mk (hbox);have m3_:=a_a.mk ((by rw [hg];exact HB.out.size : w.heap.size ≤ gbf));have m4_:=a_a.mk ((by rw [hg];exact Nat.ne_of_lt (a_k BKp.out) : gbp ≠ gbf));have m5_:=a_a.mk ((by rw [hg];exact Nat.ne_of_gt (a_k BKp.out) : gbf ≠ gbp));(try clear BKp);(try clear HB);have BKp:=m0_;have HB:=m1_;have BKf:=m2_;have GEf:=m3_;have NBp_f:=m4_;have NBf_p:=m5_;clear m0_ m1_ m2_ m3_ m4_ m5_ hb hbox hg)
  | ((with_reducible refine a_u (N:=5) rfl ?_);refine a_t ?hg (N:=5) ?hd (cs:=#[.int .u32 s]) (t:=32) ?hr ?_;(case hd => rfl);(case hg => rfl);(case hr => first|(go_simp;done)|(go_simp;rfl));intro gbs hg wbs hbox hb;have m0_:=a_a.mk (a_b (g:=gbp) (o:=.cells #[.slice (some ad) l.length c0] 26 (0,0)) BKp.out hb);have m1_:=a_a.mk (a_b (g:=gbf) (o:=.cells #[.int .i64 frm] 3 (0,0)) BKf.out hb);have m2_:=a_a.mk (a_i HB.out hb);have m3_:=a_a.mk (hbox);have m4_:=a_a.mk ((by rw [hg];exact HB.out.size : w.heap.size ≤ gbs));have m5_:=a_a.mk ((by rw [hg];exact Nat.ne_of_lt (a_k BKp.out) : gbp ≠ gbs));have m6_:=a_a.mk ((by rw [hg];exact Nat.ne_of_gt (a_k BKp.out) : gbs ≠ gbp));have m7_:=a_a.mk ((by rw [hg];exact Nat.ne_of_lt (a_k BKf.out) : gbf ≠ gbs));have m8_:=a_a.mk ((by rw [hg];exact Nat.ne_of_gt (a_k BKf.out) : gbs ≠ gbf));(try clear BKp);(try clear BKf);(try clear HB);have BKp:=m0_;have BKf:=m1_;have HB:=m2_;have BKs:=m3_;have GEs:=m4_;have NBp_s:=m5_;have NBs_p:=m6_;have NBf_s:=m7_;have NBs_f:=m8_;clear m0_ m1_ m2_ m3_ m4_ m5_ m6_ m7_ m8_ hb hbox hg)
  | ((with_reducible refine a_u (N:=6) rfl ?_);refine a_t ?hg (N:=6) ?hd (cs:=#[.slice none 0 0]) (t:=26) ?hr ?_;(case hd => rfl);(case hg => rfl);(case hr => first|(go_simp;done)|(go_simp;rfl));intro gbq hg wbq hbox hb;have m0_:=a_a.mk (a_b (g:=gbp) (o:=.cells #[.slice (some ad) l.length c0] 26 (0,0)) BKp.out hb);have m1_:=a_a.mk (a_b (g:=gbf) (o:=.cells #[.int .i64 frm] 3 (0,0)) BKf.out hb);have m2_:=a_a.mk (a_b (g:=gbs) (o:=.cells #[.int .u32 s] 32 (0,0)) BKs.out hb);have m3_:=a_a.mk (a_i HB.out hb);have m4_:=a_a.mk (hbox);have m5_:=a_a.mk ((by rw [hg];exact HB.out.size : w.heap.size ≤ gbq));have m6_:=a_a.mk ((by rw [hg];exact Nat.ne_of_lt (a_k BKp.out) : gbp ≠ gbq));have m7_:=a_a.mk ((by rw [hg];exact Nat.ne_of_gt (a_k BKp.out) : gbq ≠ gbp));have m8_:=a_a.mk ((by rw [hg];exact Nat.ne_of_lt (a_k BKf.out) : gbf ≠ gbq));have m9_:=a_a.mk ((by rw [hg];exact Nat.ne_of_gt (a_k BKf.out) : gbq ≠ gbf));have m10_:=a_a.mk ((by rw [hg];exact Nat.ne_of_lt (a_k BKs.out) : gbs ≠ gbq));have m11_:=a_a.mk ((by rw [hg];exact Nat.ne_of_gt (a_k BKs.out) : gbq ≠ gbs));(try clear BKp);(try clear BKf);(try clear BKs);(try clear HB);have BKp:=m0_;have BKf:=m1_;have BKs:=m2_;have HB:=m3_;have BKq:=m4_;have GEq:=m5_;have NBp_q:=m6_;have NBq_p:=m7_;have NBf_q:=m8_;have NBq_f:=m9_;have NBs_q:=m10_;have NBq_s:=m11_;clear m0_ m1_ m2_ m3_ m4_ m5_ m6_ m7_ m8_ m9_ m10_ m11_ hb hbox hg)
  | ((with_reducible refine a_u (N:=9) rfl ?_);refine a_t ?hg (N:=9) ?hd (cs:=#[.int .i64 0]) (t:=3) ?hr ?_;(case hd => rfl);(case hg => rfl);(case hr => first|(go_simp;done)|(go_simp;rfl));intro gbn hg wbn hbox hb;have m0_:=a_a.mk (a_b (g:=gbp) (o:=.cells #[.slice (some ad) l.length c0] 26 (0,0)) BKp.out hb);have m1_:=a_a.mk (a_b (g:=gbf) (o:=.cells #[.int .i64 frm] 3 (0,0)) BKf.out hb);have m2_:=a_a.mk (a_b (g:=gbs) (o:=.cells #[.int .u32 s] 32 (0,0)) BKs.out hb);have m3_:=a_a.mk (a_b (g:=gbq) (o:=.cells #[.slice none 0 0] 26 (0,0)) BKq.out hb);have m4_:=a_a.mk (a_i HB.out hb);have m5_:=a_a.mk (hbox);have m6_:=a_a.mk ((by rw [hg];exact HB.out.size : w.heap.size ≤ gbn));have m7_:=a_a.mk ((by rw [hg];exact Nat.ne_of_lt (a_k BKp.out) : gbp ≠ gbn));have m8_:=a_a.mk ((by rw [hg];exact Nat.ne_of_gt (a_k BKp.out) : gbn ≠ gbp));have m9_:=a_a.mk ((by rw [hg];exact Nat.ne_of_lt (a_k BKf.out) : gbf ≠ gbn));have m10_:=a_a.mk ((by rw [hg];exact Nat.ne_of_gt (a_k BKf.out) : gbn ≠ gbf));have m11_:=a_a.mk ((by rw [hg];exact Nat.ne_of_lt (a_k BKs.out) : gbs ≠ gbn));have m12_:=a_a.mk ((by rw [hg];exact Nat.ne_of_gt (a_k BKs.out) : gbn ≠ gbs));have m13_:=a_a.mk ((by rw [hg];exact Nat.ne_of_lt (a_k BKq.out) : gbq ≠ gbn));have m14_:=a_a.mk ((by rw [hg];exact Nat.ne_of_gt (a_k BKq.out) : gbn ≠ gbq));(try clear BKp);(try clear BKf);(try clear BKs);(try clear BKq);(try clear HB);have BKp:=m0_;have BKf:=m1_;have BKs:=m2_;have BKq:=m3_;have HB:=m4_;have BKn:=m5_;have GEn:=m6_;have NBp_n:=m7_;have NBn_p:=m8_;have NBf_n:=m9_;have NBn_f:=m10_;have NBs_n:=m11_;have NBn_s:=m12_;have NBq_n:=m13_;have NBn_q:=m14_;clear m0_ m1_ m2_ m3_ m4_ m5_ m6_ m7_ m8_ m9_ m10_ m11_ m12_ m13_ m14_ hb hbox hg;have hcz1_n_0 : World.cell? _ ⟨gbn,0,none⟩ = some (.int .i64 0):=(a_h BKn.out 0).trans rfl;have hfz1_n:=a_f BKn.out 0)
  | ((with_reducible refine b_c (t:=3) (p:=9) rfl ?_);refine a_9 (t:=3) (p:=9) (v:=?vo_ws2) (w1:=(wbn.setCell ⟨gbn,0,none⟩ (.int .i64 0))) ?hg ?ho ?hn ?hr ?_;(case ho => rfl);(case hg => rfl);(case hn => rfl);(case hr => first|(go_simp;done)|(go_simp;rfl));intro ws2 hw;have m0_:=a_a.mk ((show ws2.heap[gbp]? = some (.cells #[.slice (some ad) l.length c0] 26 (0,0)) by rw [hw];exact a_v BKp.out (p:=⟨gbn,0,none⟩) NBp_n.out _));have m1_:=a_a.mk ((show ws2.heap[gbf]? = some (.cells #[.int .i64 frm] 3 (0,0)) by rw [hw];exact a_v BKf.out (p:=⟨gbn,0,none⟩) NBf_n.out _));have m2_:=a_a.mk ((show ws2.heap[gbs]? = some (.cells #[.int .u32 s] 32 (0,0)) by rw [hw];exact a_v BKs.out (p:=⟨gbn,0,none⟩) NBs_n.out _));have m3_:=a_a.mk ((show ws2.heap[gbq]? = some (.cells #[.slice none 0 0] 26 (0,0)) by rw [hw];exact a_v BKq.out (p:=⟨gbn,0,none⟩) NBq_n.out _));have m4_:=a_a.mk ((show ws2.heap[gbn]? = some (.cells #[.int .i64 0] 3 (0,0)) by rw [hw];exact a_D (cs:=#[.int .i64 0]) BKn.out 0 _ rfl));have m5_:=a_a.mk ((show Below w.heap.size w ws2 by rw [hw];exact a_d HB.out GEn.out));clear hw BKp BKf BKs BKq BKn HB;have BKp:=m0_;have BKf:=m1_;have BKs:=m2_;have BKq:=m3_;have BKn:=m4_;have HB:=m5_;clear m0_ m1_ m2_ m3_ m4_ m5_;have hcz3_p_0 : World.cell? _ ⟨gbp,0,none⟩ = some (.slice (some ad) l.length c0):=(a_h BKp.out 0).trans rfl;have hfz3_p:=a_f BKp.out 0;have hcz3_f_0 : World.cell? _ ⟨gbf,0,none⟩ = some (.int .i64 frm):=(a_h BKf.out 0).trans rfl;have hfz3_f:=a_f BKf.out 0)
  | ((with_reducible refine a_u (N:=16) rfl ?_);refine Kd.c_0 (Kd.int .i64) _ 3 ?hg (N:=16) ?hd (xs:=([frm] : List Int)) (inner:=[.int .i64 frm]) (ok:=fun _ => True) (okp:=fun _ => True) ?hr ?hp (fun _ hk => hk) trivial (Below.refl _ _) (Nat.le_refl _) (by simp) ?_;(case hd => rfl);(case hg => rfl);(case hr => first|(go_simp;done)|(go_simp;rfl));(case hp => exact (Reps.one (show Kd.M (Kd.int .i64) _ _ _ frm [.int .i64 frm] from rfl) (Reps.none _ _)));intro vns wl4 ho_ hb hg_ hnew_;clear hg_ hnew_;have m0_:=a_a.mk (a_b (g:=gbp) (o:=.cells #[.slice (some ad) l.length c0] 26 (0,0)) BKp.out hb);have m1_:=a_a.mk (a_b (g:=gbf) (o:=.cells #[.int .i64 frm] 3 (0,0)) BKf.out hb);have m2_:=a_a.mk (a_b (g:=gbs) (o:=.cells #[.int .u32 s] 32 (0,0)) BKs.out hb);have m3_:=a_a.mk (a_b (g:=gbq) (o:=.cells #[.slice none 0 0] 26 (0,0)) BKq.out hb);have m4_:=a_a.mk (a_b (g:=gbn) (o:=.cells #[.int .i64 0] 3 (0,0)) BKn.out hb);have m5_:=a_a.mk (a_i HB.out hb);have m6_:=a_a.mk (Kd.a_0 ho_ HB.out.size);(try clear BKp);(try clear BKf);(try clear BKs);(try clear BKq);(try clear BKn);(try clear HB);have BKp:=m0_;have BKf:=m1_;have BKs:=m2_;have BKq:=m3_;have BKn:=m4_;have HB:=m5_;have HOns:=m6_;clear m0_ m1_ m2_ m3_ m4_ m5_ m6_ hb ho_;obtain ⟨Ans,cns,ens⟩:=Kd.a_W HOns.out;subst ens)
  | (go_at_call 18;go_must (refine (b_x.does 19 #[.pointer (some ⟨gbs,0,none⟩),.pointer (some ⟨gbf,0,none⟩),.pointer (some ⟨gbn,0,none⟩)] EG.out w.heap.size (fun k_ => k_ = gbn) k ad c0 l _ _ [frm] _ ?s1 HC.out ?s2 ?s3 HB.out.size ?s4 HE.out HP.out HL.out err l' (fun W_ => W_.heap[gbn]? = some (.cells #[.int .i64 n] 3 (0,0))) ?s5 ?s6).mono ?_);go_must ((case s1 => exact Kd.a_K HR.out HB.out));go_must ((case s2 => exact (Kd.a_B HOns.out).2.2));go_must ((case s3 => exact (Kd.a_B HOns.out).2.1));go_must ((case s4 => exact fun k_ e_ => e_ ▸ a_k BKn.out));go_must ((case s5 => exact fun W_ W2_ h1_ h2_ => (h2_ gbn rfl).trans h1_));go_must ((case s6 => exact fun W_ gq_ v_ b_ q_ bq_ r_ => a_7.any gq_ gbs gbf gbn l frm s v_ w.heap.size _ W_ err n l' bq_ r_ (a_b BKs.out b_) (a_b BKf.out b_) (a_b BKn.out b_) H0.out H1.out HL.out (fun g_ h_ => by rcases h_ with rfl|rfl|rfl;exact a_k BKs.out;exact a_k BKf.out;exact a_k BKn.out) NBf_n.out b_.size GEn.out HB.out.size q_ HS.out));go_must (rintro e wr ⟨v,rfl,ho_,hbl_,hj_,hk_⟩);go_must (rw [← HLL.out] at ho_);go_must (clear HOns);go_must (clear hcz3_p_0 hfz3_p hcz3_f_0 hfz3_f);go_must (have m0_:=a_a.mk ((hk_ gbp (a_k BKp.out) NBp_n.out).trans BKp.out));go_must (have m1_:=a_a.mk ((hk_ gbf (a_k BKf.out) NBf_n.out).trans BKf.out));go_must (have m2_:=a_a.mk ((hk_ gbs (a_k BKs.out) NBs_n.out).trans BKs.out));go_must (have m3_:=a_a.mk ((hk_ gbq (a_k BKq.out) NBq_n.out).trans BKq.out));go_must (have m4_:=a_a.mk (hj_));go_must (have m5_:=a_a.mk (HB.out.trans hbl_));go_must (have m6_:=a_a.mk (Kd.a_0 ho_ HB.out.size));go_must ((try clear BKp));go_must ((try clear BKf));go_must ((try clear BKs));go_must ((try clear BKq));go_must ((try clear BKn));go_must ((try clear HB));go_must (have BKp:=m0_);go_must (have BKf:=m1_);go_must (have BKs:=m2_);go_must (have BKq:=m3_);go_must (have BKn:=m4_);go_must (have HB:=m5_);go_must (have HOv:=m6_);go_must (clear m0_ m1_ m2_ m3_ m4_ m5_ m6_);go_must (clear ho_ hbl_ hj_ hk_);go_must (obtain ⟨Av,cv,ev⟩:=Kd.a_W HOv.out);go_must (subst ev))
  | ((with_reducible refine a_u (N:=10) rfl ?_);refine a_t ?hg (N:=10) ?hd (cs:=#[.slice none 0 0]) (t:=26) ?hr ?_;(case hd => rfl);(case hg => rfl);(case hr => first|(go_simp;done)|(go_simp;rfl));intro gbt hg wbt hbox hb;have m0_:=a_a.mk (a_b (g:=gbp) (o:=.cells #[.slice (some ad) l.length c0] 26 (0,0)) BKp.out hb);have m1_:=a_a.mk (a_b (g:=gbf) (o:=.cells #[.int .i64 frm] 3 (0,0)) BKf.out hb);have m2_:=a_a.mk (a_b (g:=gbs) (o:=.cells #[.int .u32 s] 32 (0,0)) BKs.out hb);have m3_:=a_a.mk (a_b (g:=gbq) (o:=.cells #[.slice none 0 0] 26 (0,0)) BKq.out hb);have m4_:=a_a.mk (a_b (g:=gbn) (o:=.cells #[.int .i64 n] 3 (0,0)) BKn.out hb);have m5_:=a_a.mk (Kd.a_G HOv.out hb);have m6_:=a_a.mk (a_i HB.out hb);have m7_:=a_a.mk (hbox);have m8_:=a_a.mk ((by rw [hg];exact HB.out.size : w.heap.size ≤ gbt));have m9_:=a_a.mk ((by rw [hg];exact Nat.ne_of_lt (a_k BKp.out) : gbp ≠ gbt));have m10_:=a_a.mk ((by rw [hg];exact Nat.ne_of_gt (a_k BKp.out) : gbt ≠ gbp));have m11_:=a_a.mk ((by rw [hg];exact Nat.ne_of_lt (a_k BKf.out) : gbf ≠ gbt));have m12_:=a_a.mk ((by rw [hg];exact Nat.ne_of_gt (a_k BKf.out) : gbt ≠ gbf));have m13_:=a_a.mk ((by rw [hg];exact Nat.ne_of_lt (a_k BKs.out) : gbs ≠ gbt));have m14_:=a_a.mk ((by rw [hg];exact Nat.ne_of_gt (a_k BKs.out) : gbt ≠ gbs));have m15_:=a_a.mk ((by rw [hg];exact Nat.ne_of_lt (a_k BKq.out) : gbq ≠ gbt));have m16_:=a_a.mk ((by rw [hg];exact Nat.ne_of_gt (a_k BKq.out) : gbt ≠ gbq));have m17_:=a_a.mk ((by rw [hg];exact Nat.ne_of_lt (a_k BKn.out) : gbn ≠ gbt));have m18_:=a_a.mk ((by rw [hg];exact Nat.ne_of_gt (a_k BKn.out) : gbt ≠ gbn));(try clear BKp);(try clear BKf);(try clear BKs);(try clear BKq);(try clear BKn);(try clear HOv);(try clear HB);have BKp:=m0_;have BKf:=m1_;have BKs:=m2_;have BKq:=m3_;have BKn:=m4_;have HOv:=m5_;have HB:=m6_;have BKt:=m7_;have GEt:=m8_;have NBp_t:=m9_;have NBt_p:=m10_;have NBf_t:=m11_;have NBt_f:=m12_;have NBs_t:=m13_;have NBt_s:=m14_;have NBq_t:=m15_;have NBt_q:=m16_;have NBn_t:=m17_;have NBt_n:=m18_;clear m0_ m1_ m2_ m3_ m4_ m5_ m6_ m7_ m8_ m9_ m10_ m11_ m12_ m13_ m14_ m15_ m16_ m17_ m18_ hb hbox hg;have hcz5_t_0 : World.cell? _ ⟨gbt,0,none⟩ = some (.slice none 0 0):=(a_h BKt.out 0).trans rfl;have hfz5_t:=a_f BKt.out 0)
  | ((with_reducible refine b_c (t:=26) (p:=10) rfl ?_);refine a_9 (t:=26) (p:=10) (v:=?vo_ws6) (w1:=(wbt.setCell ⟨gbt,0,none⟩ (.slice Av (L).length cv))) ?hg ?ho ?hn ?hr ?_;(case ho => rfl);(case hg => rfl);(case hn => rfl);(case hr => first|(go_simp;done)|(go_simp;rfl));intro ws6 hw;have m0_:=a_a.mk ((show ws6.heap[gbp]? = some (.cells #[.slice (some ad) l.length c0] 26 (0,0)) by rw [hw];exact a_v BKp.out (p:=⟨gbt,0,none⟩) NBp_t.out _));have m1_:=a_a.mk ((show ws6.heap[gbf]? = some (.cells #[.int .i64 frm] 3 (0,0)) by rw [hw];exact a_v BKf.out (p:=⟨gbt,0,none⟩) NBf_t.out _));have m2_:=a_a.mk ((show ws6.heap[gbs]? = some (.cells #[.int .u32 s] 32 (0,0)) by rw [hw];exact a_v BKs.out (p:=⟨gbt,0,none⟩) NBs_t.out _));have m3_:=a_a.mk ((show ws6.heap[gbq]? = some (.cells #[.slice none 0 0] 26 (0,0)) by rw [hw];exact a_v BKq.out (p:=⟨gbt,0,none⟩) NBq_t.out _));have m4_:=a_a.mk ((show ws6.heap[gbn]? = some (.cells #[.int .i64 n] 3 (0,0)) by rw [hw];exact a_v BKn.out (p:=⟨gbt,0,none⟩) NBn_t.out _));have m5_:=a_a.mk ((show ws6.heap[gbt]? = some (.cells #[.slice Av (L).length cv] 26 (0,0)) by rw [hw];exact a_D (cs:=#[.slice none 0 0]) BKt.out 0 _ rfl));have m6_:=a_a.mk ((show Kd.R (Kd.int .u32) 32 ws6 w.heap.size (fun _ => True) (.slice Av (L).length cv) L by rw [hw];exact Kd.b_2 HOv.out BKt.out (by decide) 0 _));have m7_:=a_a.mk ((show Below w.heap.size w ws6 by rw [hw];exact a_d HB.out GEt.out));clear hw BKp BKf BKs BKq BKn BKt HOv HB;have BKp:=m0_;have BKf:=m1_;have BKs:=m2_;have BKq:=m3_;have BKn:=m4_;have BKt:=m5_;have HOv:=m6_;have HB:=m7_;clear m0_ m1_ m2_ m3_ m4_ m5_ m6_ m7_;have hcz7_t_0 : World.cell? _ ⟨gbt,0,none⟩ = some (.slice Av (L).length cv):=(a_h BKt.out 0).trans rfl;have hfz7_t:=a_f BKt.out 0;have hcz7_n_0 : World.cell? _ ⟨gbn,0,none⟩ = some (.int .i64 n):=(a_h BKn.out 0).trans rfl;have hfz7_n:=a_f BKn.out 0;have hcz7_q_0 : World.cell? _ ⟨gbq,0,none⟩ = some (.slice none 0 0):=(a_h BKq.out 0).trans rfl;have hfz7_q:=a_f BKq.out 0;have hne1_:=NBt_q.out;have hne2_:=NBq_t.out;have hne3_:=NBn_q.out;have hne4_:=NBq_n.out))
 go_region
 go_wp2
 refine bodyPost_ret (b_f rfl _ _ gbq 26 #[.slice Av (L).length cv] (0,0) _ rfl (a_D (cs:=#[.slice none 0 0]) (a_m BKq.out) 0 _ rfl) Tryd.underlying26 rfl (by kernel_rfl)) rfl ?_
 exact ⟨_,rfl,Kd.b_2 (Kd.a_P HOv.out) (a_m BKq.out) (by decide) 0 _,(HB.out.drew).setCell GEq.out _⟩
set_option maxHeartbeats 4000000 in
theorem a_J.bad (k : Nat) (A0 : Option Addr) (c0 : Nat) (l : List Int) (frm s : Int) (w : World) (hr : Kd.C (Kd.int .u32) w A0 l.length l) (hc : l.length ≤ c0) (e1 : Int) (hec : a_n.f k l = some e1) (hp : e1 ≠ 0) :
 Calls Tryd.prog 9 #[.agg #[.slice A0 l.length c0],.int .i64 frm,.int .u32 s] w fun e w' => ∃ v0_ : Value,e = .returned (.tuple #[.agg #[v0_],.int .i64 0,.int .i64 e1]) ∧ Kd.R (Kd.int .u32) 32 w' w.heap.size (fun _ => True) v0_ [] ∧ Below w.heap.size w w':=by
 have HR:=a_a.mk hr
 have HC:=a_a.mk hc
 have HE:=a_a.mk hec
 have HP:=a_a.mk hp
 clear hr hc hec hp
 have HB:=a_a.mk (Below.refl w.heap.size w)
 go_enter Tryd.func9,Tryd.ntmps9
 go_wp2_with (first
  | ((with_reducible refine a_u (N:=3) rfl ?_);refine a_t ?hg (N:=3) ?hd (cs:=#[.slice A0 l.length c0]) (t:=26) ?hr ?_;(case hd => rfl);(case hg => rfl);(case hr => first|(go_simp;done)|(go_simp;rfl));intro gbp hg wbp hbox hb;have m0_:=a_a.mk (a_i HB.out hb);have m1_:=a_a.mk (hbox);have m2_:=a_a.mk ((by rw [hg];exact HB.out.size : w.heap.size ≤ gbp));(try clear HB);have HB:=m0_;have BKp:=m1_;have GEp:=m2_;clear m0_ m1_ m2_ hb hbox hg)
  | ((with_reducible refine a_u (N:=4) rfl ?_);refine a_t ?hg (N:=4) ?hd (cs:=#[.int .i64 frm]) (t:=3) ?hr ?_;(case hd => rfl);(case hg => rfl);(case hr => first|(go_simp;done)|(go_simp;rfl));intro gbf hg wbf hbox hb;have m0_:=a_a.mk (a_b (g:=gbp) (o:=.cells #[.slice A0 l.length c0] 26 (0,0)) BKp.out hb);have m1_:=a_a.mk (a_i HB.out hb);have m2_:=a_a.mk (hbox);have m3_:=a_a.mk ((by rw [hg];exact HB.out.size : w.heap.size ≤ gbf));have m4_:=a_a.mk ((by rw [hg];exact Nat.ne_of_lt (a_k BKp.out) : gbp ≠ gbf));have m5_:=a_a.mk ((by rw [hg];exact Nat.ne_of_gt (a_k BKp.out) : gbf ≠ gbp));(try clear BKp);(try clear HB);have BKp:=m0_;have HB:=m1_;have BKf:=m2_;have GEf:=m3_;have NBp_f:=m4_;have NBf_p:=m5_;clear m0_ m1_ m2_ m3_ m4_ m5_ hb hbox hg)
  | ((with_reducible refine a_u (N:=5) rfl ?_);refine a_t ?hg (N:=5) ?hd (cs:=#[.int .u32 s]) (t:=32) ?hr ?_;(case hd => rfl);(case hg => rfl);(case hr => first|(go_simp;done)|(go_simp;rfl));intro gbs hg wbs hbox hb;have m0_:=a_a.mk (a_b (g:=gbp) (o:=.cells #[.slice A0 l.length c0] 26 (0,0)) BKp.out hb);have m1_:=a_a.mk (a_b (g:=gbf) (o:=.cells #[.int .i64 frm] 3 (0,0)) BKf.out hb);have m2_:=a_a.mk (a_i HB.out hb);have m3_:=a_a.mk (hbox);have m4_:=a_a.mk ((by rw [hg];exact HB.out.size : w.heap.size ≤ gbs));have m5_:=a_a.mk ((by rw [hg];exact Nat.ne_of_lt (a_k BKp.out) : gbp ≠ gbs));have m6_:=a_a.mk ((by rw [hg];exact Nat.ne_of_gt (a_k BKp.out) : gbs ≠ gbp));have m7_:=a_a.mk ((by rw [hg];exact Nat.ne_of_lt (a_k BKf.out) : gbf ≠ gbs));have m8_:=a_a.mk ((by rw [hg];exact Nat.ne_of_gt (a_k BKf.out) : gbs ≠ gbf));(try clear BKp);(try clear BKf);(try clear HB);have BKp:=m0_;have BKf:=m1_;have HB:=m2_;have BKs:=m3_;have GEs:=m4_;have NBp_s:=m5_;have NBs_p:=m6_;have NBf_s:=m7_;have NBs_f:=m8_;clear m0_ m1_ m2_ m3_ m4_ m5_ m6_ m7_ m8_ hb hbox hg)
  | ((with_reducible refine a_u (N:=6) rfl ?_);refine a_t ?hg (N:=6) ?hd (cs:=#[.slice none 0 0]) (t:=26) ?hr ?_;(case hd => rfl);(case hg => rfl);(case hr => first|(go_simp;done)|(go_simp;rfl));intro gbq hg wbq hbox hb;have m0_:=a_a.mk (a_b (g:=gbp) (o:=.cells #[.slice A0 l.length c0] 26 (0,0)) BKp.out hb);have m1_:=a_a.mk (a_b (g:=gbf) (o:=.cells #[.int .i64 frm] 3 (0,0)) BKf.out hb);have m2_:=a_a.mk (a_b (g:=gbs) (o:=.cells #[.int .u32 s] 32 (0,0)) BKs.out hb);have m3_:=a_a.mk (a_i HB.out hb);have m4_:=a_a.mk (hbox);have m5_:=a_a.mk ((by rw [hg];exact HB.out.size : w.heap.size ≤ gbq));have m6_:=a_a.mk ((by rw [hg];exact Nat.ne_of_lt (a_k BKp.out) : gbp ≠ gbq));have m7_:=a_a.mk ((by rw [hg];exact Nat.ne_of_gt (a_k BKp.out) : gbq ≠ gbp));have m8_:=a_a.mk ((by rw [hg];exact Nat.ne_of_lt (a_k BKf.out) : gbf ≠ gbq));have m9_:=a_a.mk ((by rw [hg];exact Nat.ne_of_gt (a_k BKf.out) : gbq ≠ gbf));have m10_:=a_a.mk ((by rw [hg];exact Nat.ne_of_lt (a_k BKs.out) : gbs ≠ gbq));have m11_:=a_a.mk ((by rw [hg];exact Nat.ne_of_gt (a_k BKs.out) : gbq ≠ gbs));(try clear BKp);(try clear BKf);(try clear BKs);(try clear HB);have BKp:=m0_;have BKf:=m1_;have BKs:=m2_;have HB:=m3_;have BKq:=m4_;have GEq:=m5_;have NBp_q:=m6_;have NBq_p:=m7_;have NBf_q:=m8_;have NBq_f:=m9_;have NBs_q:=m10_;have NBq_s:=m11_;clear m0_ m1_ m2_ m3_ m4_ m5_ m6_ m7_ m8_ m9_ m10_ m11_ hb hbox hg)
  | ((with_reducible refine a_u (N:=9) rfl ?_);refine a_t ?hg (N:=9) ?hd (cs:=#[.int .i64 0]) (t:=3) ?hr ?_;(case hd => rfl);(case hg => rfl);(case hr => first|(go_simp;done)|(go_simp;rfl));intro gbn hg wbn hbox hb;have m0_:=a_a.mk (a_b (g:=gbp) (o:=.cells #[.slice A0 l.length c0] 26 (0,0)) BKp.out hb);have m1_:=a_a.mk (a_b (g:=gbf) (o:=.cells #[.int .i64 frm] 3 (0,0)) BKf.out hb);have m2_:=a_a.mk (a_b (g:=gbs) (o:=.cells #[.int .u32 s] 32 (0,0)) BKs.out hb);have m3_:=a_a.mk (a_b (g:=gbq) (o:=.cells #[.slice none 0 0] 26 (0,0)) BKq.out hb);have m4_:=a_a.mk (a_i HB.out hb);have m5_:=a_a.mk (hbox);have m6_:=a_a.mk ((by rw [hg];exact HB.out.size : w.heap.size ≤ gbn));have m7_:=a_a.mk ((by rw [hg];exact Nat.ne_of_lt (a_k BKp.out) : gbp ≠ gbn));have m8_:=a_a.mk ((by rw [hg];exact Nat.ne_of_gt (a_k BKp.out) : gbn ≠ gbp));have m9_:=a_a.mk ((by rw [hg];exact Nat.ne_of_lt (a_k BKf.out) : gbf ≠ gbn));have m10_:=a_a.mk ((by rw [hg];exact Nat.ne_of_gt (a_k BKf.out) : gbn ≠ gbf));have m11_:=a_a.mk ((by rw [hg];exact Nat.ne_of_lt (a_k BKs.out) : gbs ≠ gbn));have m12_:=a_a.mk ((by rw [hg];exact Nat.ne_of_gt (a_k BKs.out) : gbn ≠ gbs));have m13_:=a_a.mk ((by rw [hg];exact Nat.ne_of_lt (a_k BKq.out) : gbq ≠ gbn));have m14_:=a_a.mk ((by rw [hg];exact Nat.ne_of_gt (a_k BKq.out) : gbn ≠ gbq));(try clear BKp);(try clear BKf);(try clear BKs);(try clear BKq);(try clear HB);have BKp:=m0_;have BKf:=m1_;have BKs:=m2_;have BKq:=m3_;have HB:=m4_;have BKn:=m5_;have GEn:=m6_;have NBp_n:=m7_;have NBn_p:=m8_;have NBf_n:=m9_;have NBn_f:=m10_;have NBs_n:=m11_;have NBn_s:=m12_;have NBq_n:=m13_;have NBn_q:=m14_;clear m0_ m1_ m2_ m3_ m4_ m5_ m6_ m7_ m8_ m9_ m10_ m11_ m12_ m13_ m14_ hb hbox hg;have hcz1_n_0 : World.cell? _ ⟨gbn,0,none⟩ = some (.int .i64 0):=(a_h BKn.out 0).trans rfl;have hfz1_n:=a_f BKn.out 0)
  | ((with_reducible refine b_c (t:=3) (p:=9) rfl ?_);refine a_9 (t:=3) (p:=9) (v:=?vo_ws2) (w1:=(wbn.setCell ⟨gbn,0,none⟩ (.int .i64 0))) ?hg ?ho ?hn ?hr ?_;(case ho => rfl);(case hg => rfl);(case hn => rfl);(case hr => first|(go_simp;done)|(go_simp;rfl));intro ws2 hw;have m0_:=a_a.mk ((show ws2.heap[gbp]? = some (.cells #[.slice A0 l.length c0] 26 (0,0)) by rw [hw];exact a_v BKp.out (p:=⟨gbn,0,none⟩) NBp_n.out _));have m1_:=a_a.mk ((show ws2.heap[gbf]? = some (.cells #[.int .i64 frm] 3 (0,0)) by rw [hw];exact a_v BKf.out (p:=⟨gbn,0,none⟩) NBf_n.out _));have m2_:=a_a.mk ((show ws2.heap[gbs]? = some (.cells #[.int .u32 s] 32 (0,0)) by rw [hw];exact a_v BKs.out (p:=⟨gbn,0,none⟩) NBs_n.out _));have m3_:=a_a.mk ((show ws2.heap[gbq]? = some (.cells #[.slice none 0 0] 26 (0,0)) by rw [hw];exact a_v BKq.out (p:=⟨gbn,0,none⟩) NBq_n.out _));have m4_:=a_a.mk ((show ws2.heap[gbn]? = some (.cells #[.int .i64 0] 3 (0,0)) by rw [hw];exact a_D (cs:=#[.int .i64 0]) BKn.out 0 _ rfl));have m5_:=a_a.mk ((show Below w.heap.size w ws2 by rw [hw];exact a_d HB.out GEn.out));clear hw BKp BKf BKs BKq BKn HB;have BKp:=m0_;have BKf:=m1_;have BKs:=m2_;have BKq:=m3_;have BKn:=m4_;have HB:=m5_;clear m0_ m1_ m2_ m3_ m4_ m5_;have hcz3_p_0 : World.cell? _ ⟨gbp,0,none⟩ = some (.slice A0 l.length c0):=(a_h BKp.out 0).trans rfl;have hfz3_p:=a_f BKp.out 0;have hcz3_f_0 : World.cell? _ ⟨gbf,0,none⟩ = some (.int .i64 frm):=(a_h BKf.out 0).trans rfl;have hfz3_f:=a_f BKf.out 0)
  | ((with_reducible refine a_u (N:=16) rfl ?_);refine Kd.c_0 (Kd.int .i64) _ 3 ?hg (N:=16) ?hd (xs:=([frm] : List Int)) (inner:=[.int .i64 frm]) (ok:=fun _ => True) (okp:=fun _ => True) ?hr ?hp (fun _ hk => hk) trivial (Below.refl _ _) (Nat.le_refl _) (by simp) ?_;(case hd => rfl);(case hg => rfl);(case hr => first|(go_simp;done)|(go_simp;rfl));(case hp => exact (Reps.one (show Kd.M (Kd.int .i64) _ _ _ frm [.int .i64 frm] from rfl) (Reps.none _ _)));intro vns wl4 ho_ hb hg_ hnew_;clear hg_ hnew_;have m0_:=a_a.mk (a_b (g:=gbp) (o:=.cells #[.slice A0 l.length c0] 26 (0,0)) BKp.out hb);have m1_:=a_a.mk (a_b (g:=gbf) (o:=.cells #[.int .i64 frm] 3 (0,0)) BKf.out hb);have m2_:=a_a.mk (a_b (g:=gbs) (o:=.cells #[.int .u32 s] 32 (0,0)) BKs.out hb);have m3_:=a_a.mk (a_b (g:=gbq) (o:=.cells #[.slice none 0 0] 26 (0,0)) BKq.out hb);have m4_:=a_a.mk (a_b (g:=gbn) (o:=.cells #[.int .i64 0] 3 (0,0)) BKn.out hb);have m5_:=a_a.mk (a_i HB.out hb);have m6_:=a_a.mk (Kd.a_0 ho_ HB.out.size);(try clear BKp);(try clear BKf);(try clear BKs);(try clear BKq);(try clear BKn);(try clear HB);have BKp:=m0_;have BKf:=m1_;have BKs:=m2_;have BKq:=m3_;have BKn:=m4_;have HB:=m5_;have HOns:=m6_;clear m0_ m1_ m2_ m3_ m4_ m5_ m6_ hb ho_;obtain ⟨Ans,cns,ens⟩:=Kd.a_W HOns.out;subst ens)
  | (go_at_call 18;(refine (b_x.bad 19 #[.pointer (some ⟨gbs,0,none⟩),.pointer (some ⟨gbf,0,none⟩),.pointer (some ⟨gbn,0,none⟩)] k A0 c0 l _ _ [frm] _ ?s1 HC.out ?s2 ?s3 e1 HE.out HP.out).mono ?_);(case s1 => exact Kd.a_K HR.out HB.out);(case s2 => exact (Kd.a_B HOns.out).2.2);(case s3 => exact (Kd.a_B HOns.out).2.1);rintro e wr ⟨rfl,hb⟩;clear HOns hcz3_p_0 hfz3_p hcz3_f_0 hfz3_f;have m0_:=a_a.mk (a_b (g:=gbp) (o:=.cells #[.slice A0 l.length c0] 26 (0,0)) BKp.out hb);have m1_:=a_a.mk (a_b (g:=gbf) (o:=.cells #[.int .i64 frm] 3 (0,0)) BKf.out hb);have m2_:=a_a.mk (a_b (g:=gbs) (o:=.cells #[.int .u32 s] 32 (0,0)) BKs.out hb);have m3_:=a_a.mk (a_b (g:=gbq) (o:=.cells #[.slice none 0 0] 26 (0,0)) BKq.out hb);have m4_:=a_a.mk (a_b (g:=gbn) (o:=.cells #[.int .i64 0] 3 (0,0)) BKn.out hb);have m5_:=a_a.mk (a_i HB.out hb);(try clear BKp);(try clear BKf);(try clear BKs);(try clear BKq);(try clear BKn);(try clear HB);have BKp:=m0_;have BKf:=m1_;have BKs:=m2_;have BKq:=m3_;have BKn:=m4_;have HB:=m5_;clear m0_ m1_ m2_ m3_ m4_ m5_ hb;have HOv:=a_a.mk (Kd.c_6 (Kd.int .u32) 32 wr w.heap.size (fun _ => True)))
  | ((with_reducible refine a_u (N:=10) rfl ?_);refine a_t ?hg (N:=10) ?hd (cs:=#[.slice none 0 0]) (t:=26) ?hr ?_;(case hd => rfl);(case hg => rfl);(case hr => first|(go_simp;done)|(go_simp;rfl));intro gbt hg wbt hbox hb;have m0_:=a_a.mk (a_b (g:=gbp) (o:=.cells #[.slice A0 l.length c0] 26 (0,0)) BKp.out hb);have m1_:=a_a.mk (a_b (g:=gbf) (o:=.cells #[.int .i64 frm] 3 (0,0)) BKf.out hb);have m2_:=a_a.mk (a_b (g:=gbs) (o:=.cells #[.int .u32 s] 32 (0,0)) BKs.out hb);have m3_:=a_a.mk (a_b (g:=gbq) (o:=.cells #[.slice none 0 0] 26 (0,0)) BKq.out hb);have m4_:=a_a.mk (a_b (g:=gbn) (o:=.cells #[.int .i64 0] 3 (0,0)) BKn.out hb);have m5_:=a_a.mk (Kd.a_G HOv.out hb);have m6_:=a_a.mk (a_i HB.out hb);have m7_:=a_a.mk (hbox);have m8_:=a_a.mk ((by rw [hg];exact HB.out.size : w.heap.size ≤ gbt));have m9_:=a_a.mk ((by rw [hg];exact Nat.ne_of_lt (a_k BKp.out) : gbp ≠ gbt));have m10_:=a_a.mk ((by rw [hg];exact Nat.ne_of_gt (a_k BKp.out) : gbt ≠ gbp));have m11_:=a_a.mk ((by rw [hg];exact Nat.ne_of_lt (a_k BKf.out) : gbf ≠ gbt));have m12_:=a_a.mk ((by rw [hg];exact Nat.ne_of_gt (a_k BKf.out) : gbt ≠ gbf));have m13_:=a_a.mk ((by rw [hg];exact Nat.ne_of_lt (a_k BKs.out) : gbs ≠ gbt));have m14_:=a_a.mk ((by rw [hg];exact Nat.ne_of_gt (a_k BKs.out) : gbt ≠ gbs));have m15_:=a_a.mk ((by rw [hg];exact Nat.ne_of_lt (a_k BKq.out) : gbq ≠ gbt));have m16_:=a_a.mk ((by rw [hg];exact Nat.ne_of_gt (a_k BKq.out) : gbt ≠ gbq));have m17_:=a_a.mk ((by rw [hg];exact Nat.ne_of_lt (a_k BKn.out) : gbn ≠ gbt));have m18_:=a_a.mk ((by rw [hg];exact Nat.ne_of_gt (a_k BKn.out) : gbt ≠ gbn));(try clear BKp);(try clear BKf);(try clear BKs);(try clear BKq);(try clear BKn);(try clear HOv);(try clear HB);have BKp:=m0_;have BKf:=m1_;have BKs:=m2_;have BKq:=m3_;have BKn:=m4_;have HOv:=m5_;have HB:=m6_;have BKt:=m7_;have GEt:=m8_;have NBp_t:=m9_;have NBt_p:=m10_;have NBf_t:=m11_;have NBt_f:=m12_;have NBs_t:=m13_;have NBt_s:=m14_;have NBq_t:=m15_;have NBt_q:=m16_;have NBn_t:=m17_;have NBt_n:=m18_;clear m0_ m1_ m2_ m3_ m4_ m5_ m6_ m7_ m8_ m9_ m10_ m11_ m12_ m13_ m14_ m15_ m16_ m17_ m18_ hb hbox hg;have hcz5_t_0 : World.cell? _ ⟨gbt,0,none⟩ = some (.slice none 0 0):=(a_h BKt.out 0).trans rfl;have hfz5_t:=a_f BKt.out 0)
  | ((with_reducible refine b_c (t:=26) (p:=10) rfl ?_);refine a_9 (t:=26) (p:=10) (v:=?vo_ws6) (w1:=(wbt.setCell ⟨gbt,0,none⟩ (.slice none 0 0))) ?hg ?ho ?hn ?hr ?_;(case ho => rfl);(case hg => rfl);(case hn => rfl);(case hr => first|(go_simp;done)|(go_simp;rfl));intro ws6 hw;have m0_:=a_a.mk ((show ws6.heap[gbp]? = some (.cells #[.slice A0 l.length c0] 26 (0,0)) by rw [hw];exact a_v BKp.out (p:=⟨gbt,0,none⟩) NBp_t.out _));have m1_:=a_a.mk ((show ws6.heap[gbf]? = some (.cells #[.int .i64 frm] 3 (0,0)) by rw [hw];exact a_v BKf.out (p:=⟨gbt,0,none⟩) NBf_t.out _));have m2_:=a_a.mk ((show ws6.heap[gbs]? = some (.cells #[.int .u32 s] 32 (0,0)) by rw [hw];exact a_v BKs.out (p:=⟨gbt,0,none⟩) NBs_t.out _));have m3_:=a_a.mk ((show ws6.heap[gbq]? = some (.cells #[.slice none 0 0] 26 (0,0)) by rw [hw];exact a_v BKq.out (p:=⟨gbt,0,none⟩) NBq_t.out _));have m4_:=a_a.mk ((show ws6.heap[gbn]? = some (.cells #[.int .i64 0] 3 (0,0)) by rw [hw];exact a_v BKn.out (p:=⟨gbt,0,none⟩) NBn_t.out _));have m5_:=a_a.mk ((show ws6.heap[gbt]? = some (.cells #[.slice none 0 0] 26 (0,0)) by rw [hw];exact a_D (cs:=#[.slice none 0 0]) BKt.out 0 _ rfl));have m6_:=a_a.mk ((show Kd.R (Kd.int .u32) 32 ws6 w.heap.size (fun _ => True) (.slice none 0 0) [] by rw [hw];exact Kd.b_2 HOv.out BKt.out (by decide) 0 _));have m7_:=a_a.mk ((show Below w.heap.size w ws6 by rw [hw];exact a_d HB.out GEt.out));clear hw BKp BKf BKs BKq BKn BKt HOv HB;have BKp:=m0_;have BKf:=m1_;have BKs:=m2_;have BKq:=m3_;have BKn:=m4_;have BKt:=m5_;have HOv:=m6_;have HB:=m7_;clear m0_ m1_ m2_ m3_ m4_ m5_ m6_ m7_;have hcz7_t_0 : World.cell? _ ⟨gbt,0,none⟩ = some (.slice none 0 0):=(a_h BKt.out 0).trans rfl;have hfz7_t:=a_f BKt.out 0;have hcz7_n_0 : World.cell? _ ⟨gbn,0,none⟩ = some (.int .i64 0):=(a_h BKn.out 0).trans rfl;have hfz7_n:=a_f BKn.out 0;have hcz7_q_0 : World.cell? _ ⟨gbq,0,none⟩ = some (.slice none 0 0):=(a_h BKq.out 0).trans rfl;have hfz7_q:=a_f BKq.out 0;have hne1_:=NBt_q.out;have hne2_:=NBq_t.out;have hne3_:=NBn_q.out;have hne4_:=NBq_n.out))
 go_region
 go_wp2
 refine bodyPost_ret (b_f rfl _ _ gbq 26 #[.slice none 0 0] (0,0) _ rfl (a_D (cs:=#[.slice none 0 0]) (a_m BKq.out) 0 _ rfl) Tryd.underlying26 rfl (by kernel_rfl)) rfl ?_
 exact ⟨_,rfl,Kd.b_2 (Kd.a_P HOv.out) (a_m BKq.out) (by decide) 0 _,(HB.out.drew).setCell GEq.out _⟩
set_option maxHeartbeats 4000000 in
theorem a_J.lacks (k : Nat) (A0 : Option Addr) (c0 : Nat) (l : List Int) (frm s : Int) (w : World) (hr : Kd.C (Kd.int .u32) w A0 l.length l) (hc : l.length ≤ c0) (hec : a_n.f k l = some 0) (hp : a_F.f l [frm] = some false) :
 Calls Tryd.prog 9 #[.agg #[.slice A0 l.length c0],.int .i64 frm,.int .u32 s] w fun e w' => ∃ v0_ : Value,e = .returned (.tuple #[.agg #[v0_],.int .i64 0,.int .i64 4]) ∧ Kd.R (Kd.int .u32) 32 w' w.heap.size (fun _ => True) v0_ [] ∧ Below w.heap.size w w':=by
 have HR:=a_a.mk hr
 have HC:=a_a.mk hc
 have HE:=a_a.mk hec
 have HP:=a_a.mk hp
 clear hr hc hec hp
 have HB:=a_a.mk (Below.refl w.heap.size w)
 go_enter Tryd.func9,Tryd.ntmps9
 go_wp2_with (first
  | ((with_reducible refine a_u (N:=3) rfl ?_);refine a_t ?hg (N:=3) ?hd (cs:=#[.slice A0 l.length c0]) (t:=26) ?hr ?_;(case hd => rfl);(case hg => rfl);(case hr => first|(go_simp;done)|(go_simp;rfl));intro gbp hg wbp hbox hb;have m0_:=a_a.mk (a_i HB.out hb);have m1_:=a_a.mk (hbox);have m2_:=a_a.mk ((by rw [hg];exact HB.out.size : w.heap.size ≤ gbp));(try clear HB);have HB:=m0_;have BKp:=m1_;have GEp:=m2_;clear m0_ m1_ m2_ hb hbox hg)
  | ((with_reducible refine a_u (N:=4) rfl ?_);refine a_t ?hg (N:=4) ?hd (cs:=#[.int .i64 frm]) (t:=3) ?hr ?_;(case hd => rfl);(case hg => rfl);(case hr => first|(go_simp;done)|(go_simp;rfl));intro gbf hg wbf hbox hb;have m0_:=a_a.mk (a_b (g:=gbp) (o:=.cells #[.slice A0 l.length c0] 26 (0,0)) BKp.out hb);have m1_:=a_a.mk (a_i HB.out hb);have m2_:=a_a.mk (hbox);have m3_:=a_a.mk ((by rw [hg];exact HB.out.size : w.heap.size ≤ gbf));have m4_:=a_a.mk ((by rw [hg];exact Nat.ne_of_lt (a_k BKp.out) : gbp ≠ gbf));have m5_:=a_a.mk ((by rw [hg];exact Nat.ne_of_gt (a_k BKp.out) : gbf ≠ gbp));(try clear BKp);(try clear HB);have BKp:=m0_;have HB:=m1_;have BKf:=m2_;have GEf:=m3_;have NBp_f:=m4_;have NBf_p:=m5_;clear m0_ m1_ m2_ m3_ m4_ m5_ hb hbox hg)
  | ((with_reducible refine a_u (N:=5) rfl ?_);refine a_t ?hg (N:=5) ?hd (cs:=#[.int .u32 s]) (t:=32) ?hr ?_;(case hd => rfl);(case hg => rfl);(case hr => first|(go_simp;done)|(go_simp;rfl));intro gbs hg wbs hbox hb;have m0_:=a_a.mk (a_b (g:=gbp) (o:=.cells #[.slice A0 l.length c0] 26 (0,0)) BKp.out hb);have m1_:=a_a.mk (a_b (g:=gbf) (o:=.cells #[.int .i64 frm] 3 (0,0)) BKf.out hb);have m2_:=a_a.mk (a_i HB.out hb);have m3_:=a_a.mk (hbox);have m4_:=a_a.mk ((by rw [hg];exact HB.out.size : w.heap.size ≤ gbs));have m5_:=a_a.mk ((by rw [hg];exact Nat.ne_of_lt (a_k BKp.out) : gbp ≠ gbs));have m6_:=a_a.mk ((by rw [hg];exact Nat.ne_of_gt (a_k BKp.out) : gbs ≠ gbp));have m7_:=a_a.mk ((by rw [hg];exact Nat.ne_of_lt (a_k BKf.out) : gbf ≠ gbs));have m8_:=a_a.mk ((by rw [hg];exact Nat.ne_of_gt (a_k BKf.out) : gbs ≠ gbf));(try clear BKp);(try clear BKf);(try clear HB);have BKp:=m0_;have BKf:=m1_;have HB:=m2_;have BKs:=m3_;have GEs:=m4_;have NBp_s:=m5_;have NBs_p:=m6_;have NBf_s:=m7_;have NBs_f:=m8_;clear m0_ m1_ m2_ m3_ m4_ m5_ m6_ m7_ m8_ hb hbox hg)
  | ((with_reducible refine a_u (N:=6) rfl ?_);refine a_t ?hg (N:=6) ?hd (cs:=#[.slice none 0 0]) (t:=26) ?hr ?_;(case hd => rfl);(case hg => rfl);(case hr => first|(go_simp;done)|(go_simp;rfl));intro gbq hg wbq hbox hb;have m0_:=a_a.mk (a_b (g:=gbp) (o:=.cells #[.slice A0 l.length c0] 26 (0,0)) BKp.out hb);have m1_:=a_a.mk (a_b (g:=gbf) (o:=.cells #[.int .i64 frm] 3 (0,0)) BKf.out hb);have m2_:=a_a.mk (a_b (g:=gbs) (o:=.cells #[.int .u32 s] 32 (0,0)) BKs.out hb);have m3_:=a_a.mk (a_i HB.out hb);have m4_:=a_a.mk (hbox);have m5_:=a_a.mk ((by rw [hg];exact HB.out.size : w.heap.size ≤ gbq));have m6_:=a_a.mk ((by rw [hg];exact Nat.ne_of_lt (a_k BKp.out) : gbp ≠ gbq));have m7_:=a_a.mk ((by rw [hg];exact Nat.ne_of_gt (a_k BKp.out) : gbq ≠ gbp));have m8_:=a_a.mk ((by rw [hg];exact Nat.ne_of_lt (a_k BKf.out) : gbf ≠ gbq));have m9_:=a_a.mk ((by rw [hg];exact Nat.ne_of_gt (a_k BKf.out) : gbq ≠ gbf));have m10_:=a_a.mk ((by rw [hg];exact Nat.ne_of_lt (a_k BKs.out) : gbs ≠ gbq));have m11_:=a_a.mk ((by rw [hg];exact Nat.ne_of_gt (a_k BKs.out) : gbq ≠ gbs));(try clear BKp);(try clear BKf);(try clear BKs);(try clear HB);have BKp:=m0_;have BKf:=m1_;have BKs:=m2_;have HB:=m3_;have BKq:=m4_;have GEq:=m5_;have NBp_q:=m6_;have NBq_p:=m7_;have NBf_q:=m8_;have NBq_f:=m9_;have NBs_q:=m10_;have NBq_s:=m11_;clear m0_ m1_ m2_ m3_ m4_ m5_ m6_ m7_ m8_ m9_ m10_ m11_ hb hbox hg)
  | ((with_reducible refine a_u (N:=9) rfl ?_);refine a_t ?hg (N:=9) ?hd (cs:=#[.int .i64 0]) (t:=3) ?hr ?_;(case hd => rfl);(case hg => rfl);(case hr => first|(go_simp;done)|(go_simp;rfl));intro gbn hg wbn hbox hb;have m0_:=a_a.mk (a_b (g:=gbp) (o:=.cells #[.slice A0 l.length c0] 26 (0,0)) BKp.out hb);have m1_:=a_a.mk (a_b (g:=gbf) (o:=.cells #[.int .i64 frm] 3 (0,0)) BKf.out hb);have m2_:=a_a.mk (a_b (g:=gbs) (o:=.cells #[.int .u32 s] 32 (0,0)) BKs.out hb);have m3_:=a_a.mk (a_b (g:=gbq) (o:=.cells #[.slice none 0 0] 26 (0,0)) BKq.out hb);have m4_:=a_a.mk (a_i HB.out hb);have m5_:=a_a.mk (hbox);have m6_:=a_a.mk ((by rw [hg];exact HB.out.size : w.heap.size ≤ gbn));have m7_:=a_a.mk ((by rw [hg];exact Nat.ne_of_lt (a_k BKp.out) : gbp ≠ gbn));have m8_:=a_a.mk ((by rw [hg];exact Nat.ne_of_gt (a_k BKp.out) : gbn ≠ gbp));have m9_:=a_a.mk ((by rw [hg];exact Nat.ne_of_lt (a_k BKf.out) : gbf ≠ gbn));have m10_:=a_a.mk ((by rw [hg];exact Nat.ne_of_gt (a_k BKf.out) : gbn ≠ gbf));have m11_:=a_a.mk ((by rw [hg];exact Nat.ne_of_lt (a_k BKs.out) : gbs ≠ gbn));have m12_:=a_a.mk ((by rw [hg];exact Nat.ne_of_gt (a_k BKs.out) : gbn ≠ gbs));have m13_:=a_a.mk ((by rw [hg];exact Nat.ne_of_lt (a_k BKq.out) : gbq ≠ gbn));have m14_:=a_a.mk ((by rw [hg];exact Nat.ne_of_gt (a_k BKq.out) : gbn ≠ gbq));(try clear BKp);(try clear BKf);(try clear BKs);(try clear BKq);(try clear HB);have BKp:=m0_;have BKf:=m1_;have BKs:=m2_;have BKq:=m3_;have HB:=m4_;have BKn:=m5_;have GEn:=m6_;have NBp_n:=m7_;have NBn_p:=m8_;have NBf_n:=m9_;have NBn_f:=m10_;have NBs_n:=m11_;have NBn_s:=m12_;have NBq_n:=m13_;have NBn_q:=m14_;clear m0_ m1_ m2_ m3_ m4_ m5_ m6_ m7_ m8_ m9_ m10_ m11_ m12_ m13_ m14_ hb hbox hg;have hcz1_n_0 : World.cell? _ ⟨gbn,0,none⟩ = some (.int .i64 0):=(a_h BKn.out 0).trans rfl;have hfz1_n:=a_f BKn.out 0)
  | ((with_reducible refine b_c (t:=3) (p:=9) rfl ?_);refine a_9 (t:=3) (p:=9) (v:=?vo_ws2) (w1:=(wbn.setCell ⟨gbn,0,none⟩ (.int .i64 0))) ?hg ?ho ?hn ?hr ?_;(case ho => rfl);(case hg => rfl);(case hn => rfl);(case hr => first|(go_simp;done)|(go_simp;rfl));intro ws2 hw;have m0_:=a_a.mk ((show ws2.heap[gbp]? = some (.cells #[.slice A0 l.length c0] 26 (0,0)) by rw [hw];exact a_v BKp.out (p:=⟨gbn,0,none⟩) NBp_n.out _));have m1_:=a_a.mk ((show ws2.heap[gbf]? = some (.cells #[.int .i64 frm] 3 (0,0)) by rw [hw];exact a_v BKf.out (p:=⟨gbn,0,none⟩) NBf_n.out _));have m2_:=a_a.mk ((show ws2.heap[gbs]? = some (.cells #[.int .u32 s] 32 (0,0)) by rw [hw];exact a_v BKs.out (p:=⟨gbn,0,none⟩) NBs_n.out _));have m3_:=a_a.mk ((show ws2.heap[gbq]? = some (.cells #[.slice none 0 0] 26 (0,0)) by rw [hw];exact a_v BKq.out (p:=⟨gbn,0,none⟩) NBq_n.out _));have m4_:=a_a.mk ((show ws2.heap[gbn]? = some (.cells #[.int .i64 0] 3 (0,0)) by rw [hw];exact a_D (cs:=#[.int .i64 0]) BKn.out 0 _ rfl));have m5_:=a_a.mk ((show Below w.heap.size w ws2 by rw [hw];exact a_d HB.out GEn.out));clear hw BKp BKf BKs BKq BKn HB;have BKp:=m0_;have BKf:=m1_;have BKs:=m2_;have BKq:=m3_;have BKn:=m4_;have HB:=m5_;clear m0_ m1_ m2_ m3_ m4_ m5_;have hcz3_p_0 : World.cell? _ ⟨gbp,0,none⟩ = some (.slice A0 l.length c0):=(a_h BKp.out 0).trans rfl;have hfz3_p:=a_f BKp.out 0;have hcz3_f_0 : World.cell? _ ⟨gbf,0,none⟩ = some (.int .i64 frm):=(a_h BKf.out 0).trans rfl;have hfz3_f:=a_f BKf.out 0)
  | ((with_reducible refine a_u (N:=16) rfl ?_);refine Kd.c_0 (Kd.int .i64) _ 3 ?hg (N:=16) ?hd (xs:=([frm] : List Int)) (inner:=[.int .i64 frm]) (ok:=fun _ => True) (okp:=fun _ => True) ?hr ?hp (fun _ hk => hk) trivial (Below.refl _ _) (Nat.le_refl _) (by simp) ?_;(case hd => rfl);(case hg => rfl);(case hr => first|(go_simp;done)|(go_simp;rfl));(case hp => exact (Reps.one (show Kd.M (Kd.int .i64) _ _ _ frm [.int .i64 frm] from rfl) (Reps.none _ _)));intro vns wl4 ho_ hb hg_ hnew_;clear hg_ hnew_;have m0_:=a_a.mk (a_b (g:=gbp) (o:=.cells #[.slice A0 l.length c0] 26 (0,0)) BKp.out hb);have m1_:=a_a.mk (a_b (g:=gbf) (o:=.cells #[.int .i64 frm] 3 (0,0)) BKf.out hb);have m2_:=a_a.mk (a_b (g:=gbs) (o:=.cells #[.int .u32 s] 32 (0,0)) BKs.out hb);have m3_:=a_a.mk (a_b (g:=gbq) (o:=.cells #[.slice none 0 0] 26 (0,0)) BKq.out hb);have m4_:=a_a.mk (a_b (g:=gbn) (o:=.cells #[.int .i64 0] 3 (0,0)) BKn.out hb);have m5_:=a_a.mk (a_i HB.out hb);have m6_:=a_a.mk (Kd.a_0 ho_ HB.out.size);(try clear BKp);(try clear BKf);(try clear BKs);(try clear BKq);(try clear BKn);(try clear HB);have BKp:=m0_;have BKf:=m1_;have BKs:=m2_;have BKq:=m3_;have BKn:=m4_;have HB:=m5_;have HOns:=m6_;clear m0_ m1_ m2_ m3_ m4_ m5_ m6_ hb ho_;obtain ⟨Ans,cns,ens⟩:=Kd.a_W HOns.out;subst ens)
  | (go_at_call 18;(refine (b_x.lacks 19 #[.pointer (some ⟨gbs,0,none⟩),.pointer (some ⟨gbf,0,none⟩),.pointer (some ⟨gbn,0,none⟩)] k A0 c0 l _ _ [frm] _ ?s1 HC.out ?s2 ?s3 HE.out HP.out).mono ?_);(case s1 => exact Kd.a_K HR.out HB.out);(case s2 => exact (Kd.a_B HOns.out).2.2);(case s3 => exact (Kd.a_B HOns.out).2.1);rintro e wr ⟨rfl,hb⟩;clear HOns hcz3_p_0 hfz3_p hcz3_f_0 hfz3_f;have m0_:=a_a.mk (a_b (g:=gbp) (o:=.cells #[.slice A0 l.length c0] 26 (0,0)) BKp.out hb);have m1_:=a_a.mk (a_b (g:=gbf) (o:=.cells #[.int .i64 frm] 3 (0,0)) BKf.out hb);have m2_:=a_a.mk (a_b (g:=gbs) (o:=.cells #[.int .u32 s] 32 (0,0)) BKs.out hb);have m3_:=a_a.mk (a_b (g:=gbq) (o:=.cells #[.slice none 0 0] 26 (0,0)) BKq.out hb);have m4_:=a_a.mk (a_b (g:=gbn) (o:=.cells #[.int .i64 0] 3 (0,0)) BKn.out hb);have m5_:=a_a.mk (a_i HB.out hb);(try clear BKp);(try clear BKf);(try clear BKs);(try clear BKq);(try clear BKn);(try clear HB);have BKp:=m0_;have BKf:=m1_;have BKs:=m2_;have BKq:=m3_;have BKn:=m4_;have HB:=m5_;clear m0_ m1_ m2_ m3_ m4_ m5_ hb;have HOv:=a_a.mk (Kd.c_6 (Kd.int .u32) 32 wr w.heap.size (fun _ => True)))
  | ((with_reducible refine a_u (N:=10) rfl ?_);refine a_t ?hg (N:=10) ?hd (cs:=#[.slice none 0 0]) (t:=26) ?hr ?_;(case hd => rfl);(case hg => rfl);(case hr => first|(go_simp;done)|(go_simp;rfl));intro gbt hg wbt hbox hb;have m0_:=a_a.mk (a_b (g:=gbp) (o:=.cells #[.slice A0 l.length c0] 26 (0,0)) BKp.out hb);have m1_:=a_a.mk (a_b (g:=gbf) (o:=.cells #[.int .i64 frm] 3 (0,0)) BKf.out hb);have m2_:=a_a.mk (a_b (g:=gbs) (o:=.cells #[.int .u32 s] 32 (0,0)) BKs.out hb);have m3_:=a_a.mk (a_b (g:=gbq) (o:=.cells #[.slice none 0 0] 26 (0,0)) BKq.out hb);have m4_:=a_a.mk (a_b (g:=gbn) (o:=.cells #[.int .i64 0] 3 (0,0)) BKn.out hb);have m5_:=a_a.mk (Kd.a_G HOv.out hb);have m6_:=a_a.mk (a_i HB.out hb);have m7_:=a_a.mk (hbox);have m8_:=a_a.mk ((by rw [hg];exact HB.out.size : w.heap.size ≤ gbt));have m9_:=a_a.mk ((by rw [hg];exact Nat.ne_of_lt (a_k BKp.out) : gbp ≠ gbt));have m10_:=a_a.mk ((by rw [hg];exact Nat.ne_of_gt (a_k BKp.out) : gbt ≠ gbp));have m11_:=a_a.mk ((by rw [hg];exact Nat.ne_of_lt (a_k BKf.out) : gbf ≠ gbt));have m12_:=a_a.mk ((by rw [hg];exact Nat.ne_of_gt (a_k BKf.out) : gbt ≠ gbf));have m13_:=a_a.mk ((by rw [hg];exact Nat.ne_of_lt (a_k BKs.out) : gbs ≠ gbt));have m14_:=a_a.mk ((by rw [hg];exact Nat.ne_of_gt (a_k BKs.out) : gbt ≠ gbs));have m15_:=a_a.mk ((by rw [hg];exact Nat.ne_of_lt (a_k BKq.out) : gbq ≠ gbt));have m16_:=a_a.mk ((by rw [hg];exact Nat.ne_of_gt (a_k BKq.out) : gbt ≠ gbq));have m17_:=a_a.mk ((by rw [hg];exact Nat.ne_of_lt (a_k BKn.out) : gbn ≠ gbt));have m18_:=a_a.mk ((by rw [hg];exact Nat.ne_of_gt (a_k BKn.out) : gbt ≠ gbn));(try clear BKp);(try clear BKf);(try clear BKs);(try clear BKq);(try clear BKn);(try clear HOv);(try clear HB);have BKp:=m0_;have BKf:=m1_;have BKs:=m2_;have BKq:=m3_;have BKn:=m4_;have HOv:=m5_;have HB:=m6_;have BKt:=m7_;have GEt:=m8_;have NBp_t:=m9_;have NBt_p:=m10_;have NBf_t:=m11_;have NBt_f:=m12_;have NBs_t:=m13_;have NBt_s:=m14_;have NBq_t:=m15_;have NBt_q:=m16_;have NBn_t:=m17_;have NBt_n:=m18_;clear m0_ m1_ m2_ m3_ m4_ m5_ m6_ m7_ m8_ m9_ m10_ m11_ m12_ m13_ m14_ m15_ m16_ m17_ m18_ hb hbox hg;have hcz5_t_0 : World.cell? _ ⟨gbt,0,none⟩ = some (.slice none 0 0):=(a_h BKt.out 0).trans rfl;have hfz5_t:=a_f BKt.out 0)
  | ((with_reducible refine b_c (t:=26) (p:=10) rfl ?_);refine a_9 (t:=26) (p:=10) (v:=?vo_ws6) (w1:=(wbt.setCell ⟨gbt,0,none⟩ (.slice none 0 0))) ?hg ?ho ?hn ?hr ?_;(case ho => rfl);(case hg => rfl);(case hn => rfl);(case hr => first|(go_simp;done)|(go_simp;rfl));intro ws6 hw;have m0_:=a_a.mk ((show ws6.heap[gbp]? = some (.cells #[.slice A0 l.length c0] 26 (0,0)) by rw [hw];exact a_v BKp.out (p:=⟨gbt,0,none⟩) NBp_t.out _));have m1_:=a_a.mk ((show ws6.heap[gbf]? = some (.cells #[.int .i64 frm] 3 (0,0)) by rw [hw];exact a_v BKf.out (p:=⟨gbt,0,none⟩) NBf_t.out _));have m2_:=a_a.mk ((show ws6.heap[gbs]? = some (.cells #[.int .u32 s] 32 (0,0)) by rw [hw];exact a_v BKs.out (p:=⟨gbt,0,none⟩) NBs_t.out _));have m3_:=a_a.mk ((show ws6.heap[gbq]? = some (.cells #[.slice none 0 0] 26 (0,0)) by rw [hw];exact a_v BKq.out (p:=⟨gbt,0,none⟩) NBq_t.out _));have m4_:=a_a.mk ((show ws6.heap[gbn]? = some (.cells #[.int .i64 0] 3 (0,0)) by rw [hw];exact a_v BKn.out (p:=⟨gbt,0,none⟩) NBn_t.out _));have m5_:=a_a.mk ((show ws6.heap[gbt]? = some (.cells #[.slice none 0 0] 26 (0,0)) by rw [hw];exact a_D (cs:=#[.slice none 0 0]) BKt.out 0 _ rfl));have m6_:=a_a.mk ((show Kd.R (Kd.int .u32) 32 ws6 w.heap.size (fun _ => True) (.slice none 0 0) [] by rw [hw];exact Kd.b_2 HOv.out BKt.out (by decide) 0 _));have m7_:=a_a.mk ((show Below w.heap.size w ws6 by rw [hw];exact a_d HB.out GEt.out));clear hw BKp BKf BKs BKq BKn BKt HOv HB;have BKp:=m0_;have BKf:=m1_;have BKs:=m2_;have BKq:=m3_;have BKn:=m4_;have BKt:=m5_;have HOv:=m6_;have HB:=m7_;clear m0_ m1_ m2_ m3_ m4_ m5_ m6_ m7_;have hcz7_t_0 : World.cell? _ ⟨gbt,0,none⟩ = some (.slice none 0 0):=(a_h BKt.out 0).trans rfl;have hfz7_t:=a_f BKt.out 0;have hcz7_n_0 : World.cell? _ ⟨gbn,0,none⟩ = some (.int .i64 0):=(a_h BKn.out 0).trans rfl;have hfz7_n:=a_f BKn.out 0;have hcz7_q_0 : World.cell? _ ⟨gbq,0,none⟩ = some (.slice none 0 0):=(a_h BKq.out 0).trans rfl;have hfz7_q:=a_f BKq.out 0;have hne1_:=NBt_q.out;have hne2_:=NBq_t.out;have hne3_:=NBn_q.out;have hne4_:=NBq_n.out))
 go_region
 go_wp2
 refine bodyPost_ret (b_f rfl _ _ gbq 26 #[.slice none 0 0] (0,0) _ rfl (a_D (cs:=#[.slice none 0 0]) (a_m BKq.out) 0 _ rfl) Tryd.underlying26 rfl (by kernel_rfl)) rfl ?_
 exact ⟨_,rfl,Kd.b_2 (Kd.a_P HOv.out) (a_m BKq.out) (by decide) 0 _,(HB.out.drew).setCell GEq.out _⟩
def a_J.f (k : Nat) (l0_0 : List Int) (a1 : Int) (a2 : Int) : Option (List Int × Int × Int) :=
 if l0_0.length < 35184372088832 then (a_n.f k l0_0).bind fun e => if e ≠ 0 then some ([],0,e) else (a_F.f l0_0 [a1]).bind fun ok => if ok = false then some ([],0,4) else (c_E l0_0 a1 a2).bind fun x => some (if x.1 = 0 then x.2.1 else [],x.2.2,x.1) else none
theorem a_J.mono : ∀ a0 a1 a2 k,LeO (a_J.f k a0 a1 a2) (a_J.f (k + 1) a0 a1 a2):=by
 intro a0 a1 a2 k
 unfold a_J.f
 split
 ·exact LeO.bind (a_n.mono a0 k) (fun _ => LeO.refl _)
 exact LeO.refl _
theorem a_F.one {l : List Int} {n : Int} (h : a_F.f l [n] = some true) : 0 ≤ n ∧ n < l.length:=by
 unfold a_F.f at h
 simp at h
 omega
theorem a_J.calls (k : Nat) (A0_0 : Option Addr) (c0_0 : Nat) (l0_0 : List Int) (a1 : Int) (a2 : Int) (r1 : List Int) (r2 : Int) (r3 : Int) (w : World) (hr0_0 : Kd.C (Kd.int .u32) w A0_0 l0_0.length l0_0) (hc0_0 : l0_0.length ≤ c0_0) (h : a_J.f k l0_0 a1 a2 = some (r1,r2,r3)) :
 Calls Tryd.prog 9 #[.agg #[.slice A0_0 l0_0.length c0_0],.int .i64 a1,.int .u32 a2] w fun e w' => ∃ v0_ : Value,e = .returned (.tuple #[.agg #[v0_],.int .i64 r2,.int .i64 r3]) ∧ Kd.R (Kd.int .u32) 32 w' w.heap.size (fun _ => True) v0_ r1 ∧ Below w.heap.size w w':=by
 unfold a_J.f at h
 split at h
 case isFalse => cases h
 case isTrue hl =>
 obtain ⟨e,he,h⟩:=Option.bind_eq_some_iff.mp h
 by_cases e0 : e = 0
 case neg =>
  rw [if_pos e0] at h
  injection h with h;injection h with h1 h;injection h with h2 h3
  subst h1 h2 h3
  exact a_J.bad k A0_0 c0_0 l0_0 a1 a2 w hr0_0 hc0_0 e he e0
 subst e0
 rw [if_neg (by simp)] at h
 obtain ⟨ok,hok,h⟩:=Option.bind_eq_some_iff.mp h
 cases ok
 ·rw [if_pos rfl] at h
  injection h with h;injection h with h1 h;injection h with h2 h3
  subst h1 h2 h3
  exact a_J.lacks k A0_0 c0_0 l0_0 a1 a2 w hr0_0 hc0_0 he hok
 rw [if_neg (by simp)] at h
 obtain ⟨⟨err,l',n⟩,hx,h⟩:=Option.bind_eq_some_iff.mp h
 injection h with h;injection h with h1 h;injection h with h2 h3
 subst h2 h3
 obtain ⟨h0,h1'⟩:=a_F.one hok
 obtain ⟨ad,rfl,_⟩:=Kd.b_X hr0_0 a1 h0 h1'
 exact a_J.does k ad c0_0 l0_0 a1 a2 err n l' w hr0_0 hc0_0 hl he hok h0 h1' hx r1 h1.symm
end Go.Proofs.YtkhbffjfclepfaaDoor.Q
end
section
namespace Go.Proofs.YtkhbffjfclepfaaDoor.Q
open Go.RowKit Go.Proofs.YtkhbffjfclepfaaDoorW.PrintWords Go.Proofs.YtkhbffjfclepfaaDoorW.PrintLast Go.Proofs.YtkhbffjfclepfaaDoorW.PrintMore
set_option linter.unusedVariables false
set_option linter.unusedSimpArgs false
set_option maxHeartbeats 4000000 in
theorem b_B.lacks (k : Nat) (gq gc gt gw : Nat) (l : List Int) (cpu tt n : Int) (v : Value) (base B0 : Nat) (w : World)
 (hq : w.heap[gq]? = some (.cells #[v] 26 (0,0))) (hR : Kd.R (Kd.int .u32) 32 w B0 (fun _ => True) v l)
 (hc : w.heap[gc]? = some (.cells #[.int .i64 cpu] 3 (0,0))) (ht : w.heap[gt]? = some (.cells #[.int .i64 tt] 3 (0,0))) (hw : w.heap[gw]? = some (.cells #[.int .i64 0] 3 (0,0)))
 (h0 : 0 ≤ tt) (h1 : tt < l.length) (hl : l.length < 35184372088832) (hB0 : ∀ g,g = gc ∨ g = gt ∨ g = gw → g < B0) (hB0w : B0 ≤ w.heap.size) (hbn : base ≤ gw) (hbB : base ≤ B0) (hBq : B0 ≤ gq) (htw : gt ≠ gw) (hcw : gc ≠ gw) (n0 : Int) (hof : a_3.f k l cpu = some (n0,false)) :
 Calls Tryd.prog 22 #[.pointer (some ⟨gq,0,none⟩),.pointer (some ⟨gc,0,none⟩),.pointer (some ⟨gt,0,none⟩),.pointer (some ⟨gw,0,none⟩)] w fun e W' => e = .returned (.int .i64 2) ∧ Below w.heap.size w W':=by
 obtain ⟨go,co,rfl,hgo,hgl,cl,HG⟩:=Kd.c_o hR (by omega)
 have HX0:=a_a.mk hB0w
 have HX1:=a_a.mk hbn
 have HX2:=a_a.mk hbB
 have HX3:=a_a.mk hBq
 have HT:=a_a.mk htw
 have HCW:=a_a.mk hcw
 clear hB0w hbn hbB hBq htw hcw
 have BKq:=a_a.mk hq
 have BKc:=a_a.mk hc
 have BKt:=a_a.mk ht
 have BKw:=a_a.mk hw
 have HO:=a_a.mk hR
 have cq : w.cell? ⟨gq,0,none⟩ = some (.slice (some ⟨go,0,none⟩) l.length co):=(a_h hq 0).trans rfl
 have cc : w.cell? ⟨gc,0,none⟩ = some (.int .i64 cpu):=(a_h hc 0).trans rfl
 have n1 : ¬ gq = gw:=by intro e;subst e;rw [hq] at hw;cases hw
 have n2 : ¬ gw = gq:=fun e => n1 e.symm
 have n3 : ¬ gc = go:=by have:=hB0 gc (by simp);omega
 have n4 : ¬ gt = go:=by have:=hB0 gt (by simp);omega
 have n5 : ¬ gw = go:=by have:=hB0 gw (by simp);omega
 have n6 : ¬ gq = go:=by intro e;subst e;rw [hq] at HG;cases HG
 have n7 : ¬ go = gw:=fun e => n5 e.symm
 have HC : a_a ((Kd.int .u32).C w (some ⟨go,0,none⟩) l.length l):=⟨(Kd.a_B hR).2.2⟩
 have HCAP:=a_a.mk (Kd.a_B hR).2.1
 have HGo:=a_a.mk hgo
 have HGl:=a_a.mk hgl
 clear hq hR hc ht hw hB0 HG hgo hgl
 have HOF:=a_a.mk hof
 clear hof
 go_enter Tryd.func22,Tryd.ntmps22
 go_wp2
 go_region_with (go_at_call 16;refine (a_3.calls k _ _ l cpu n0 false _ (Kd.b_a HC.out) HCAP.out HOF.out).mono ?_;rintro e w2 ⟨rfl,hb⟩;have HBD:=a_a.mk hb;clear hb)
 all_goals
  go_wp2
  go_ret
  exact ⟨rfl,(Below.refl _ w).drew.trans HBD.out⟩
set_option maxHeartbeats 4000000 in
theorem b_B.there (k : Nat) (gq gc gt gw : Nat) (l : List Int) (cpu tt n : Int) (v : Value) (base B0 : Nat) (w : World)
 (hq : w.heap[gq]? = some (.cells #[v] 26 (0,0))) (hR : Kd.R (Kd.int .u32) 32 w B0 (fun _ => True) v l)
 (hc : w.heap[gc]? = some (.cells #[.int .i64 cpu] 3 (0,0))) (ht : w.heap[gt]? = some (.cells #[.int .i64 tt] 3 (0,0))) (hw : w.heap[gw]? = some (.cells #[.int .i64 0] 3 (0,0)))
 (h0 : 0 ≤ tt) (h1 : tt < l.length) (hl : l.length < 35184372088832) (hB0 : ∀ g,g = gc ∨ g = gt ∨ g = gw → g < B0) (hB0w : B0 ≤ w.heap.size) (hbn : base ≤ gw) (hbB : base ≤ B0) (hBq : B0 ≤ gq) (htw : gt ≠ gw) (hcw : gc ≠ gw) (hof : a_3.f k l cpu = some (n,true)) (he : n = tt) :
 Calls Tryd.prog 22 #[.pointer (some ⟨gq,0,none⟩),.pointer (some ⟨gc,0,none⟩),.pointer (some ⟨gt,0,none⟩),.pointer (some ⟨gw,0,none⟩)] w fun e W' => e = .returned (.int .i64 5) ∧ Below w.heap.size w W':=by
 obtain ⟨go,co,rfl,hgo,hgl,cl,HG⟩:=Kd.c_o hR (by omega)
 have HX0:=a_a.mk hB0w
 have HX1:=a_a.mk hbn
 have HX2:=a_a.mk hbB
 have HX3:=a_a.mk hBq
 have HT:=a_a.mk htw
 have HCW:=a_a.mk hcw
 clear hB0w hbn hbB hBq htw hcw
 have BKq:=a_a.mk hq
 have BKc:=a_a.mk hc
 have BKt:=a_a.mk ht
 have BKw:=a_a.mk hw
 have HO:=a_a.mk hR
 have cq : w.cell? ⟨gq,0,none⟩ = some (.slice (some ⟨go,0,none⟩) l.length co):=(a_h hq 0).trans rfl
 have cc : w.cell? ⟨gc,0,none⟩ = some (.int .i64 cpu):=(a_h hc 0).trans rfl
 have n1 : ¬ gq = gw:=by intro e;subst e;rw [hq] at hw;cases hw
 have n2 : ¬ gw = gq:=fun e => n1 e.symm
 have n3 : ¬ gc = go:=by have:=hB0 gc (by simp);omega
 have n4 : ¬ gt = go:=by have:=hB0 gt (by simp);omega
 have n5 : ¬ gw = go:=by have:=hB0 gw (by simp);omega
 have n6 : ¬ gq = go:=by intro e;subst e;rw [hq] at HG;cases HG
 have n7 : ¬ go = gw:=fun e => n5 e.symm
 have HC : a_a ((Kd.int .u32).C w (some ⟨go,0,none⟩) l.length l):=⟨(Kd.a_B hR).2.2⟩
 have HCAP:=a_a.mk (Kd.a_B hR).2.1
 have HGo:=a_a.mk hgo
 have HGl:=a_a.mk hgl
 clear hq hR hc ht hw hB0 HG hgo hgl
 have HOF:=a_a.mk hof
 have d1 : (n == tt) = true:=beq_iff_eq.mpr he
 clear hof he
 go_enter Tryd.func22,Tryd.ntmps22
 go_wp2
 go_region_with (go_at_call 16;refine (a_3.calls k _ _ l cpu n true _ (Kd.b_a HC.out) HCAP.out HOF.out).mono ?_;rintro e w2 ⟨rfl,hb⟩;have HBD:=a_a.mk hb;clear hb)
 all_goals
  have BKq2:=a_a.mk (a_b (a_m BKq.out) HBD.out)
  have BKt2:=a_a.mk (a_b (a_m BKt.out) HBD.out)
  have BKw2:=a_a.mk (a_b (a_m BKw.out) HBD.out)
  have BKc2:=a_a.mk (a_b (a_m BKc.out) HBD.out)
  have HO2:=a_a.mk (Kd.a_G (Kd.a_P HO.out) HBD.out)
  have cq2 : w2.cell? ⟨gq,0,none⟩ = some (.slice (some ⟨go,0,none⟩) l.length co):=(a_h BKq2.out 0).trans rfl
  have ct2 : w2.cell? ⟨gt,0,none⟩ = some (.int .i64 tt):=(a_h BKt2.out 0).trans rfl
  have cc2 : w2.cell? ⟨gc,0,none⟩ = some (.int .i64 cpu):=(a_h BKc2.out 0).trans rfl
  go_wp2
  go_ret
  exact ⟨rfl,(Below.refl _ w).drew.trans HBD.out⟩
set_option maxHeartbeats 4000000 in
theorem b_B.last (k : Nat) (gq gc gt gw : Nat) (l : List Int) (cpu tt n : Int) (v : Value) (base B0 : Nat) (w : World)
 (hq : w.heap[gq]? = some (.cells #[v] 26 (0,0))) (hR : Kd.R (Kd.int .u32) 32 w B0 (fun _ => True) v l)
 (hc : w.heap[gc]? = some (.cells #[.int .i64 cpu] 3 (0,0))) (ht : w.heap[gt]? = some (.cells #[.int .i64 tt] 3 (0,0))) (hw : w.heap[gw]? = some (.cells #[.int .i64 0] 3 (0,0)))
 (h0 : 0 ≤ tt) (h1 : tt < l.length) (hl : l.length < 35184372088832) (hB0 : ∀ g,g = gc ∨ g = gt ∨ g = gw → g < B0) (hB0w : B0 ≤ w.heap.size) (hbn : base ≤ gw) (hbB : base ≤ B0) (hBq : B0 ≤ gq) (htw : gt ≠ gw) (hcw : gc ≠ gw) (hof : a_3.f k l cpu = some (n,true)) (he : n ≠ tt) (hn0 : 0 ≤ n) (hn1 : n < l.length) (hcn : a_U.f (rd l n) = some 1) :
 Calls Tryd.prog 22 #[.pointer (some ⟨gq,0,none⟩),.pointer (some ⟨gc,0,none⟩),.pointer (some ⟨gt,0,none⟩),.pointer (some ⟨gw,0,none⟩)] w fun e W' => e = .returned (.int .i64 181) ∧ Below w.heap.size w W':=by
 obtain ⟨go,co,rfl,hgo,hgl,cl,HG⟩:=Kd.c_o hR (by omega)
 have HX0:=a_a.mk hB0w
 have HX1:=a_a.mk hbn
 have HX2:=a_a.mk hbB
 have HX3:=a_a.mk hBq
 have HT:=a_a.mk htw
 have HCW:=a_a.mk hcw
 clear hB0w hbn hbB hBq htw hcw
 have BKq:=a_a.mk hq
 have BKc:=a_a.mk hc
 have BKt:=a_a.mk ht
 have BKw:=a_a.mk hw
 have HO:=a_a.mk hR
 have cq : w.cell? ⟨gq,0,none⟩ = some (.slice (some ⟨go,0,none⟩) l.length co):=(a_h hq 0).trans rfl
 have cc : w.cell? ⟨gc,0,none⟩ = some (.int .i64 cpu):=(a_h hc 0).trans rfl
 have n1 : ¬ gq = gw:=by intro e;subst e;rw [hq] at hw;cases hw
 have n2 : ¬ gw = gq:=fun e => n1 e.symm
 have n3 : ¬ gc = go:=by have:=hB0 gc (by simp);omega
 have n4 : ¬ gt = go:=by have:=hB0 gt (by simp);omega
 have n5 : ¬ gw = go:=by have:=hB0 gw (by simp);omega
 have n6 : ¬ gq = go:=by intro e;subst e;rw [hq] at HG;cases HG
 have n7 : ¬ go = gw:=fun e => n5 e.symm
 have HC : a_a ((Kd.int .u32).C w (some ⟨go,0,none⟩) l.length l):=⟨(Kd.a_B hR).2.2⟩
 have HCAP:=a_a.mk (Kd.a_B hR).2.1
 have HGo:=a_a.mk hgo
 have HGl:=a_a.mk hgl
 clear hq hR hc ht hw hB0 HG hgo hgl
 have HOF:=a_a.mk hof
 have HN0:=a_a.mk hn0
 have HN1:=a_a.mk hn1
 have HCN:=a_a.mk hcn
 have d1 : (n == tt) = false:=beq_eq_false_iff_ne.mpr he
 clear hof he hcn hn0 hn1
 go_enter Tryd.func22,Tryd.ntmps22
 go_wp2
 go_region_with (go_at_call 16;refine (a_3.calls k _ _ l cpu n true _ (Kd.b_a HC.out) HCAP.out HOF.out).mono ?_;rintro e w2 ⟨rfl,hb⟩;have HBD:=a_a.mk hb;clear hb)
 all_goals
  have BKq2:=a_a.mk (a_b (a_m BKq.out) HBD.out)
  have BKt2:=a_a.mk (a_b (a_m BKt.out) HBD.out)
  have BKw2:=a_a.mk (a_b (a_m BKw.out) HBD.out)
  have BKc2:=a_a.mk (a_b (a_m BKc.out) HBD.out)
  have HO2:=a_a.mk (Kd.a_G (Kd.a_P HO.out) HBD.out)
  have cq2 : w2.cell? ⟨gq,0,none⟩ = some (.slice (some ⟨go,0,none⟩) l.length co):=(a_h BKq2.out 0).trans rfl
  have ct2 : w2.cell? ⟨gt,0,none⟩ = some (.int .i64 tt):=(a_h BKt2.out 0).trans rfl
  have cc2 : w2.cell? ⟨gc,0,none⟩ = some (.int .i64 cpu):=(a_h BKc2.out 0).trans rfl
  have d4 : (0 ≤ n) = True:=eq_true HN0.out
  have d5 : (n < (l.length : Int)) = True:=eq_true HN1.out
  obtain ⟨ce,fe⟩:=Kd.b_M 0 HO2.out n HN0.out HN1.out
  rw [show rdOf 0 l n = rd l n from rfl] at ce
  go_wp2_with (go_at_call 17;refine (a_U.calls (rd l n) 1 _ HCN.out).mono ?_;rintro e w3 ⟨rfl,nd,rfl⟩)
  go_ret
  exact ⟨rfl,((Below.refl _ w).drew.trans HBD.out).trans ((a_c (Below.refl _ _) nd).mono HBD.out.size)⟩
set_option maxHeartbeats 4000000 in
theorem b_B.ok (k : Nat) (gq gc gt gw : Nat) (l : List Int) (cpu tt n : Int) (v : Value) (base B0 : Nat) (w : World)
 (hq : w.heap[gq]? = some (.cells #[v] 26 (0,0))) (hR : Kd.R (Kd.int .u32) 32 w B0 (fun _ => True) v l)
 (hc : w.heap[gc]? = some (.cells #[.int .i64 cpu] 3 (0,0))) (ht : w.heap[gt]? = some (.cells #[.int .i64 tt] 3 (0,0))) (hw : w.heap[gw]? = some (.cells #[.int .i64 0] 3 (0,0)))
 (h0 : 0 ≤ tt) (h1 : tt < l.length) (hl : l.length < 35184372088832) (hB0 : ∀ g,g = gc ∨ g = gt ∨ g = gw → g < B0) (hB0w : B0 ≤ w.heap.size) (hbn : base ≤ gw) (hbB : base ≤ B0) (hBq : B0 ≤ gq) (htw : gt ≠ gw) (hcw : gc ≠ gw) (hof : a_3.f k l cpu = some (n,true)) (he : n ≠ tt) (hn0 : 0 ≤ n) (hn1 : n < l.length) (c : Int) (hcn : a_U.f (rd l n) = some c) (hc1 : c ≠ 1) (hc0 : 0 ≤ cpu) (hc8 : cpu < 8) (b : Int) (hb : shl .u32 1 cpu = b) :
 Calls Tryd.prog 22 #[.pointer (some ⟨gq,0,none⟩),.pointer (some ⟨gc,0,none⟩),.pointer (some ⟨gt,0,none⟩),.pointer (some ⟨gw,0,none⟩)] w fun e W' => e = .returned (.int .i64 0) ∧ Below base w W' ∧ W'.heap[gw]? = some (.cells #[.int .i64 n] 3 (0,0)) ∧ (∀ k,k < w.heap.size → k ≠ gq → k ≠ gw → some k ≠ v.ownBlock → W'.heap[k]? = w.heap[k]?) ∧ ∃ v',W'.heap[gq]? = some (.cells #[v'] 26 (0,0)) ∧ Kd.R (Kd.int .u32) 32 W' B0 (fun _ => True) v' ((l.set n.toNat (bits .andNot .u32 (rd l n) b)).set tt.toNat (bits .or .u32 (rd l tt) b)):=by
 obtain ⟨go,co,rfl,hgo,hgl,cl,HG⟩:=Kd.c_o hR (by omega)
 have HX0:=a_a.mk hB0w
 have HX1:=a_a.mk hbn
 have HX2:=a_a.mk hbB
 have HX3:=a_a.mk hBq
 have HT:=a_a.mk htw
 have HCW:=a_a.mk hcw
 clear hB0w hbn hbB hBq htw hcw
 have BKq:=a_a.mk hq
 have BKc:=a_a.mk hc
 have BKt:=a_a.mk ht
 have BKw:=a_a.mk hw
 have HO:=a_a.mk hR
 have cq : w.cell? ⟨gq,0,none⟩ = some (.slice (some ⟨go,0,none⟩) l.length co):=(a_h hq 0).trans rfl
 have cc : w.cell? ⟨gc,0,none⟩ = some (.int .i64 cpu):=(a_h hc 0).trans rfl
 have n1 : ¬ gq = gw:=by intro e;subst e;rw [hq] at hw;cases hw
 have n2 : ¬ gw = gq:=fun e => n1 e.symm
 have n3 : ¬ gc = go:=by have:=hB0 gc (by simp);omega
 have n4 : ¬ gt = go:=by have:=hB0 gt (by simp);omega
 have n5 : ¬ gw = go:=by have:=hB0 gw (by simp);omega
 have n6 : ¬ gq = go:=by intro e;subst e;rw [hq] at HG;cases HG
 have n7 : ¬ go = gw:=fun e => n5 e.symm
 have HC : a_a ((Kd.int .u32).C w (some ⟨go,0,none⟩) l.length l):=⟨(Kd.a_B hR).2.2⟩
 have HCAP:=a_a.mk (Kd.a_B hR).2.1
 have HGo:=a_a.mk hgo
 have HGl:=a_a.mk hgl
 clear hq hR hc ht hw hB0 HG hgo hgl
 have HOF:=a_a.mk hof
 have HN0:=a_a.mk hn0
 have HN1:=a_a.mk hn1
 have HT0:=a_a.mk h0
 have HT1:=a_a.mk h1
 have HCN:=a_a.mk hcn
 have d1 : (n == tt) = false:=beq_eq_false_iff_ne.mpr he
 have d2 : (c == 1) = false:=beq_eq_false_iff_ne.mpr hc1
 have d3 : (0 ≤ cpu) = True:=eq_true hc0
 have d8 : (cpu < 8) = True:=eq_true hc8
 have HNE:=a_a.mk he
 have hsb : IntKind.u32.wrap (2 ^ cpu.toNat) = b:=by have h_:=d_l hb (by have : ((IntKind.bits .u32 : Nat) : Int) = 32:=rfl;omega);rw [Int.one_mul] at h_;exact h_
 clear hof he hcn hn0 hn1 hc1 hb h0 h1
 go_enter Tryd.func22,Tryd.ntmps22
 go_wp2
 go_region_with (go_at_call 16;refine (a_3.calls k _ _ l cpu n true _ (Kd.b_a HC.out) HCAP.out HOF.out).mono ?_;rintro e w2 ⟨rfl,hb⟩;have HBD:=a_a.mk hb;clear hb)
 all_goals
  have BKq2:=a_a.mk (a_b (a_m BKq.out) HBD.out)
  have BKt2:=a_a.mk (a_b (a_m BKt.out) HBD.out)
  have BKw2:=a_a.mk (a_b (a_m BKw.out) HBD.out)
  have BKc2:=a_a.mk (a_b (a_m BKc.out) HBD.out)
  have HO2:=a_a.mk (Kd.a_G (Kd.a_P HO.out) HBD.out)
  have cq2 : w2.cell? ⟨gq,0,none⟩ = some (.slice (some ⟨go,0,none⟩) l.length co):=(a_h BKq2.out 0).trans rfl
  have ct2 : w2.cell? ⟨gt,0,none⟩ = some (.int .i64 tt):=(a_h BKt2.out 0).trans rfl
  have cc2 : w2.cell? ⟨gc,0,none⟩ = some (.int .i64 cpu):=(a_h BKc2.out 0).trans rfl
  have d4 : (0 ≤ n) = True:=eq_true HN0.out
  have d5 : (n < (l.length : Int)) = True:=eq_true HN1.out
  obtain ⟨ce,fe⟩:=Kd.b_M 0 HO2.out n HN0.out HN1.out
  rw [show rdOf 0 l n = rd l n from rfl] at ce
  have d6 : (0 ≤ tt) = True:=eq_true HT0.out
  have d7 : (tt < (l.length : Int)) = True:=eq_true HT1.out
  obtain ⟨ce2,fe2⟩:=Kd.b_M 0 HO2.out tt HT0.out HT1.out
  rw [show rdOf 0 l tt = rd l tt from rfl] at ce2
  have cw2 : w2.cell? ⟨gw,0,none⟩ = some (.int .i64 0):=(a_h BKw2.out 0).trans rfl
  have fw2:=a_f BKw2.out 0
  have n8 : ¬ gc = gw:=HCW.out
  have n9 : ¬ gt = gw:=HT.out
  go_wp2_with (go_at_call 17;refine (a_U.calls (rd l n) c _ HCN.out).mono ?_;rintro e w3 ⟨rfl,nd,rfl⟩)
  have HO3 : a_a (Kd.R (Kd.int .u32) 32 ((w2.drewN nd).setCell ⟨gw,0,none⟩ (.int .i64 n)) B0 (fun _ => True) (.slice (some ⟨go,0,none⟩) l.length co) l):=⟨Kd.b_2 (Kd.a_M HO2.out _) (a_o BKw2.out _) (by decide) 0 _⟩
  have BKq3 : a_a (((w2.drewN nd).setCell ⟨gw,0,none⟩ (.int .i64 n)).heap[gq]? = some (.cells #[.slice (some ⟨go,0,none⟩) l.length co] 26 (0,0))):=⟨a_v (a_o BKq2.out _) (p:=⟨gw,0,none⟩) n1 _⟩
  have BKt3 : a_a (((w2.drewN nd).setCell ⟨gw,0,none⟩ (.int .i64 n)).heap[gt]? = some (.cells #[.int .i64 tt] 3 (0,0))):=⟨a_v (a_o BKt2.out _) (p:=⟨gw,0,none⟩) n9 _⟩
  have BKw3 : a_a (((w2.drewN nd).setCell ⟨gw,0,none⟩ (.int .i64 n)).heap[gw]? = some (.cells #[.int .i64 n] 3 (0,0))):=⟨a_D (cs:=#[.int .i64 0]) (a_o BKw2.out _) 0 _ rfl⟩
  have FB : a_a (Below base w ((w2.drewN nd).setCell ⟨gw,0,none⟩ (.int .i64 n))):=⟨((((Below.refl _ w).drew.trans HBD.out).trans ((a_c (Below.refl _ _) nd).mono HBD.out.size)).mono (Nat.le_trans HX2.out HX0.out)).setCell (p:=⟨gw,0,none⟩) HX1.out _⟩
  have FK : a_a (∀ k,k < w.heap.size → k ≠ gw → ((w2.drewN nd).setCell ⟨gw,0,none⟩ (.int .i64 n)).heap[k]? = w.heap[k]?):=⟨fun k k1 k2 => (Below.heap_setCell _ ⟨gw,0,none⟩ _ k k2).trans (HBD.out.block k k1)⟩
  generalize (w2.drewN nd).setCell ⟨gw,0,none⟩ (.int .i64 n) = w4 at HO3 BKq3 BKt3 BKw3 FB FK ⊢
  clear ce ce2 fe fe2 cq2 ct2 cc2 cw2 fw2 hsb
  have cq2 : w4.cell? ⟨gq,0,none⟩ = some (.slice (some ⟨go,0,none⟩) l.length co):=(a_h BKq3.out 0).trans rfl
  have ct2 : w4.cell? ⟨gt,0,none⟩ = some (.int .i64 tt):=(a_h BKt3.out 0).trans rfl
  obtain ⟨ce,fe⟩:=Kd.b_M 0 HO3.out n HN0.out HN1.out
  rw [show rdOf 0 l n = rd l n from rfl] at ce
  obtain ⟨ce2,fe2⟩:=Kd.b_M 0 HO3.out tt HT0.out HT1.out
  rw [show rdOf 0 l tt = rd l tt from rfl] at ce2
  have n10 : ¬ n.toNat = tt.toNat:=by have:=HN0.out;have:=HT0.out;have:=HNE.out;omega
  have n11 : ¬ tt.toNat = n.toNat:=fun e_ => n10 e_.symm
  go_region
  all_goals
   go_wp2
   go_ret
   refine ⟨rfl,?_,?_,?_,.slice (some ⟨go,0,none⟩) l.length co,?_,?_⟩
   ·exact ((FB.out.setCell (p:=⟨go,n.toNat,none⟩) (Nat.le_trans HX2.out HGo.out) _).setCell (p:=⟨go,tt.toNat,none⟩) (Nat.le_trans HX2.out HGo.out) _).drew
   ·exact a_m (a_v (a_v BKw3.out (p:=⟨go,n.toNat,none⟩) n5 _) (p:=⟨go,tt.toNat,none⟩) n5 _)
   ·exact fun k_ k1 k2 k3 k4 => (Below.heap_setCell _ ⟨go,tt.toNat,none⟩ _ k_ (fun e_ => k4 (by rw [e_];rfl))).trans ((Below.heap_setCell _ ⟨go,n.toNat,none⟩ _ k_ (fun e_ => k4 (by rw [e_];rfl))).trans (FK.out k_ k1 k3))
   ·exact a_m (a_v (a_v BKq3.out (p:=⟨go,n.toNat,none⟩) n6 _) (p:=⟨go,tt.toNat,none⟩) n6 _)
   ·exact Kd.a_P (Kd.e_I (Kd.e_I HO3.out n _) tt _)
def c_C (k : Nat) (l : List Int) (cpu tt : Int) : Option (Int × List Int × Int) :=
 (a_3.f k l cpu).bind fun x => if x.2 = false then some (2,[],0) else if x.1 = tt then some (5,[],0) else if 0 ≤ x.1 ∧ x.1 < l.length ∧ 0 ≤ cpu ∧ cpu < 8 then (a_U.f (rd l x.1)).bind fun c => if c = 1 then some (181,[],0) else some (0,(l.set x.1.toNat (bits .andNot .u32 (rd l x.1) (shl .u32 1 cpu))).set tt.toNat (bits .or .u32 (rd l tt) (shl .u32 1 cpu)),x.1) else none
theorem b_B.any (k : Nat) (gq gc gt gw : Nat) (l : List Int) (cpu tt : Int) (v : Value) (base B0 : Nat) (w : World) (err n : Int) (l' : List Int)
 (hq : w.heap[gq]? = some (.cells #[v] 26 (0,0))) (hR : Kd.R (Kd.int .u32) 32 w B0 (fun _ => True) v l)
 (hc : w.heap[gc]? = some (.cells #[.int .i64 cpu] 3 (0,0))) (ht : w.heap[gt]? = some (.cells #[.int .i64 tt] 3 (0,0))) (hw : w.heap[gw]? = some (.cells #[.int .i64 0] 3 (0,0)))
 (h0 : 0 ≤ tt) (h1 : tt < l.length) (hl : l.length < 35184372088832) (hB0 : ∀ g,g = gc ∨ g = gt ∨ g = gw → g < B0) (hB0w : B0 ≤ w.heap.size) (hbn : base ≤ gw) (hbB : base ≤ B0) (hBq : B0 ≤ gq) (htw : gt ≠ gw) (hcw : gc ≠ gw) (h : c_C k l cpu tt = some (err,l',n)) :
 Calls Tryd.prog 22 #[.pointer (some ⟨gq,0,none⟩),.pointer (some ⟨gc,0,none⟩),.pointer (some ⟨gt,0,none⟩),.pointer (some ⟨gw,0,none⟩)] w fun e W' => e = .returned (.int .i64 err) ∧ Below base w W' ∧ W'.heap[gw]? = some (.cells #[.int .i64 n] 3 (0,0)) ∧ (∀ k,k < w.heap.size → k ≠ gq → k ≠ gw → some k ≠ v.ownBlock → W'.heap[k]? = w.heap[k]?) ∧ (err = 0 → ∃ v',W'.heap[gq]? = some (.cells #[v'] 26 (0,0)) ∧ Kd.R (Kd.int .u32) 32 W' B0 (fun _ => True) v' l'):=by
 have still : ∀ (er : Int),er ≠ 0 → er = err → 0 = n → ∀ (e : Ending) (W' : World),(e = .returned (.int .i64 er) ∧ Below w.heap.size w W') → e = .returned (.int .i64 err) ∧ Below base w W' ∧ W'.heap[gw]? = some (.cells #[.int .i64 n] 3 (0,0)) ∧ (∀ k,k < w.heap.size → k ≠ gq → k ≠ gw → some k ≠ v.ownBlock → W'.heap[k]? = w.heap[k]?) ∧ (err = 0 → ∃ v',W'.heap[gq]? = some (.cells #[v'] 26 (0,0)) ∧ Kd.R (Kd.int .u32) 32 W' B0 (fun _ => True) v' l'):=by
  rintro er h1 rfl rfl e W' ⟨rfl,hb⟩
  exact ⟨rfl,hb.mono (Nat.le_trans hbB hB0w),a_b hw hb,fun k k1 _ _ _ => hb.block k k1,fun h => absurd h h1⟩
 unfold c_C at h
 obtain ⟨⟨n0,b⟩,hof,h⟩:=Option.bind_eq_some_iff.mp h
 dsimp only at h
 cases b
 ·rw [if_pos rfl] at h
  injection h with h;injection h with e1 h;injection h with e2 e3
  exact (b_B.lacks k gq gc gt gw l cpu tt n v base B0 w hq hR hc ht hw h0 h1 hl hB0 hB0w hbn hbB hBq htw hcw n0 hof).mono (fun e W' => still 2 (by decide) e1 e3 e W')
 rw [if_neg (by simp)] at h
 by_cases he : n0 = tt
 ·rw [if_pos he] at h
  injection h with h;injection h with e1 h;injection h with e2 e3
  exact (b_B.there k gq gc gt gw l cpu tt n0 v base B0 w hq hR hc ht hw h0 h1 hl hB0 hB0w hbn hbB hBq htw hcw hof he).mono (fun e W' => still 5 (by decide) e1 e3 e W')
 rw [if_neg he] at h
 split at h
 case isFalse => cases h
 case isTrue hn =>
 obtain ⟨hn0,hn1,hc0,hc8⟩:=hn
 obtain ⟨c,hcn,h⟩:=Option.bind_eq_some_iff.mp h
 by_cases c1 : c = 1
 ·subst c1
  rw [if_pos rfl] at h
  injection h with h;injection h with e1 h;injection h with e2 e3
  exact (b_B.last k gq gc gt gw l cpu tt n0 v base B0 w hq hR hc ht hw h0 h1 hl hB0 hB0w hbn hbB hBq htw hcw hof he hn0 hn1 hcn).mono (fun e W' => still 181 (by decide) e1 e3 e W')
 rw [if_neg c1] at h
 injection h with h;injection h with e1 h;injection h with e2 e3
 subst e1 e2 e3
 refine (b_B.ok k gq gc gt gw l cpu tt n0 v base B0 w hq hR hc ht hw h0 h1 hl hB0 hB0w hbn hbB hBq htw hcw hof he hn0 hn1 c hcn c1 hc0 hc8 _ rfl).mono ?_
 rintro e W' ⟨rfl,a1,a2,a3,a4⟩
 exact ⟨rfl,a1,a2,a3,fun _ => a4⟩
set_option maxHeartbeats 4000000 in
theorem a_H.does (k : Nat) (ad : Addr) (c0 : Nat) (l : List Int) (a b err n : Int) (l' : List Int) (w : World) (hr : Kd.C (Kd.int .u32) w (some ad) l.length l) (hc : l.length ≤ c0) (hl : l.length < 35184372088832)
 (hec : a_n.f k l = some 0) (hp : a_F.f l [b] = some true) (h0 : 0 ≤ b) (h1 : b < l.length) (hs : c_C k l a b = some (err,l',n)) (L : List Int) (hL : L = if err = 0 then l' else []) :
 Calls Tryd.prog 10 #[.agg #[.slice (some ad) l.length c0],.int .i64 a,.int .i64 b] w fun e w' => ∃ v0_ : Value,e = .returned (.tuple #[.agg #[v0_],.int .i64 n,.int .i64 err]) ∧ Kd.R (Kd.int .u32) 32 w' w.heap.size (fun _ => True) v0_ L ∧ Below w.heap.size w w':=by
 have HLL:=a_a.mk hL
 clear hL
 have HR:=a_a.mk hr
 have HC:=a_a.mk hc
 have HE:=a_a.mk hec
 have HP:=a_a.mk hp
 have HL:=a_a.mk hl
 have HS:=a_a.mk hs
 have H0:=a_a.mk h0
 have H1:=a_a.mk h1
 have EG:=a_a.mk (c_2 Tryd.func22 (by kernel_rfl) rfl)
 clear hr hc hec hp hl hs h0 h1
 have HB:=a_a.mk (Below.refl w.heap.size w)
 go_enter Tryd.func10,Tryd.ntmps10
 go_wp2_with (first
  | ((with_reducible refine a_u (N:=3) rfl ?_);refine a_t ?hg (N:=3) ?hd (cs:=#[.slice (some ad) l.length c0]) (t:=26) ?hr ?_;(case hd => rfl);(case hg => rfl);(case hr => first|(go_simp;done)|(go_simp;rfl));intro gbp hg wbp hbox hb;have m0_:=a_a.mk (a_i HB.out hb);have m1_:=a_a.mk (hbox);have m2_:=a_a.mk ((by rw [hg];exact HB.out.size : w.heap.size ≤ gbp));(try clear HB);have HB:=m0_;have BKp:=m1_;have GEp:=m2_;clear m0_ m1_ m2_ hb hbox hg)
  | ((with_reducible refine a_u (N:=4) rfl ?_);refine a_t ?hg (N:=4) ?hd (cs:=#[.int .i64 a]) (t:=3) ?hr ?_;(case hd => rfl);(case hg => rfl);(case hr => first|(go_simp;done)|(go_simp;rfl));intro gba hg wba hbox hb;have m0_:=a_a.mk (a_b (g:=gbp) (o:=.cells #[.slice (some ad) l.length c0] 26 (0,0)) BKp.out hb);have m1_:=a_a.mk (a_i HB.out hb);have m2_:=a_a.mk (hbox);have m3_:=a_a.mk ((by rw [hg];exact HB.out.size : w.heap.size ≤ gba));have m4_:=a_a.mk ((by rw [hg];exact Nat.ne_of_lt (a_k BKp.out) : gbp ≠ gba));have m5_:=a_a.mk ((by rw [hg];exact Nat.ne_of_gt (a_k BKp.out) : gba ≠ gbp));(try clear BKp);(try clear HB);have BKp:=m0_;have HB:=m1_;have BKa:=m2_;have GEa:=m3_;have NBp_a:=m4_;have NBa_p:=m5_;clear m0_ m1_ m2_ m3_ m4_ m5_ hb hbox hg)
  | ((with_reducible refine a_u (N:=5) rfl ?_);refine a_t ?hg (N:=5) ?hd (cs:=#[.int .i64 b]) (t:=3) ?hr ?_;(case hd => rfl);(case hg => rfl);(case hr => first|(go_simp;done)|(go_simp;rfl));intro gbb hg wbb hbox hb;have m0_:=a_a.mk (a_b (g:=gbp) (o:=.cells #[.slice (some ad) l.length c0] 26 (0,0)) BKp.out hb);have m1_:=a_a.mk (a_b (g:=gba) (o:=.cells #[.int .i64 a] 3 (0,0)) BKa.out hb);have m2_:=a_a.mk (a_i HB.out hb);have m3_:=a_a.mk (hbox);have m4_:=a_a.mk ((by rw [hg];exact HB.out.size : w.heap.size ≤ gbb));have m5_:=a_a.mk ((by rw [hg];exact Nat.ne_of_lt (a_k BKp.out) : gbp ≠ gbb));have m6_:=a_a.mk ((by rw [hg];exact Nat.ne_of_gt (a_k BKp.out) : gbb ≠ gbp));have m7_:=a_a.mk ((by rw [hg];exact Nat.ne_of_lt (a_k BKa.out) : gba ≠ gbb));have m8_:=a_a.mk ((by rw [hg];exact Nat.ne_of_gt (a_k BKa.out) : gbb ≠ gba));(try clear BKp);(try clear BKa);(try clear HB);have BKp:=m0_;have BKa:=m1_;have HB:=m2_;have BKb:=m3_;have GEb:=m4_;have NBp_b:=m5_;have NBb_p:=m6_;have NBa_b:=m7_;have NBb_a:=m8_;clear m0_ m1_ m2_ m3_ m4_ m5_ m6_ m7_ m8_ hb hbox hg)
  | ((with_reducible refine a_u (N:=6) rfl ?_);refine a_t ?hg (N:=6) ?hd (cs:=#[.slice none 0 0]) (t:=26) ?hr ?_;(case hd => rfl);(case hg => rfl);(case hr => first|(go_simp;done)|(go_simp;rfl));intro gbq hg wbq hbox hb;have m0_:=a_a.mk (a_b (g:=gbp) (o:=.cells #[.slice (some ad) l.length c0] 26 (0,0)) BKp.out hb);have m1_:=a_a.mk (a_b (g:=gba) (o:=.cells #[.int .i64 a] 3 (0,0)) BKa.out hb);have m2_:=a_a.mk (a_b (g:=gbb) (o:=.cells #[.int .i64 b] 3 (0,0)) BKb.out hb);have m3_:=a_a.mk (a_i HB.out hb);have m4_:=a_a.mk (hbox);have m5_:=a_a.mk ((by rw [hg];exact HB.out.size : w.heap.size ≤ gbq));have m6_:=a_a.mk ((by rw [hg];exact Nat.ne_of_lt (a_k BKp.out) : gbp ≠ gbq));have m7_:=a_a.mk ((by rw [hg];exact Nat.ne_of_gt (a_k BKp.out) : gbq ≠ gbp));have m8_:=a_a.mk ((by rw [hg];exact Nat.ne_of_lt (a_k BKa.out) : gba ≠ gbq));have m9_:=a_a.mk ((by rw [hg];exact Nat.ne_of_gt (a_k BKa.out) : gbq ≠ gba));have m10_:=a_a.mk ((by rw [hg];exact Nat.ne_of_lt (a_k BKb.out) : gbb ≠ gbq));have m11_:=a_a.mk ((by rw [hg];exact Nat.ne_of_gt (a_k BKb.out) : gbq ≠ gbb));(try clear BKp);(try clear BKa);(try clear BKb);(try clear HB);have BKp:=m0_;have BKa:=m1_;have BKb:=m2_;have HB:=m3_;have BKq:=m4_;have GEq:=m5_;have NBp_q:=m6_;have NBq_p:=m7_;have NBa_q:=m8_;have NBq_a:=m9_;have NBb_q:=m10_;have NBq_b:=m11_;clear m0_ m1_ m2_ m3_ m4_ m5_ m6_ m7_ m8_ m9_ m10_ m11_ hb hbox hg)
  | ((with_reducible refine a_u (N:=9) rfl ?_);refine a_t ?hg (N:=9) ?hd (cs:=#[.int .i64 0]) (t:=3) ?hr ?_;(case hd => rfl);(case hg => rfl);(case hr => first|(go_simp;done)|(go_simp;rfl));intro gbn hg wbn hbox hb;have m0_:=a_a.mk (a_b (g:=gbp) (o:=.cells #[.slice (some ad) l.length c0] 26 (0,0)) BKp.out hb);have m1_:=a_a.mk (a_b (g:=gba) (o:=.cells #[.int .i64 a] 3 (0,0)) BKa.out hb);have m2_:=a_a.mk (a_b (g:=gbb) (o:=.cells #[.int .i64 b] 3 (0,0)) BKb.out hb);have m3_:=a_a.mk (a_b (g:=gbq) (o:=.cells #[.slice none 0 0] 26 (0,0)) BKq.out hb);have m4_:=a_a.mk (a_i HB.out hb);have m5_:=a_a.mk (hbox);have m6_:=a_a.mk ((by rw [hg];exact HB.out.size : w.heap.size ≤ gbn));have m7_:=a_a.mk ((by rw [hg];exact Nat.ne_of_lt (a_k BKp.out) : gbp ≠ gbn));have m8_:=a_a.mk ((by rw [hg];exact Nat.ne_of_gt (a_k BKp.out) : gbn ≠ gbp));have m9_:=a_a.mk ((by rw [hg];exact Nat.ne_of_lt (a_k BKa.out) : gba ≠ gbn));have m10_:=a_a.mk ((by rw [hg];exact Nat.ne_of_gt (a_k BKa.out) : gbn ≠ gba));have m11_:=a_a.mk ((by rw [hg];exact Nat.ne_of_lt (a_k BKb.out) : gbb ≠ gbn));have m12_:=a_a.mk ((by rw [hg];exact Nat.ne_of_gt (a_k BKb.out) : gbn ≠ gbb));have m13_:=a_a.mk ((by rw [hg];exact Nat.ne_of_lt (a_k BKq.out) : gbq ≠ gbn));have m14_:=a_a.mk ((by rw [hg];exact Nat.ne_of_gt (a_k BKq.out) : gbn ≠ gbq));(try clear BKp);(try clear BKa);(try clear BKb);(try clear BKq);(try clear HB);have BKp:=m0_;have BKa:=m1_;have BKb:=m2_;have BKq:=m3_;have HB:=m4_;have BKn:=m5_;have GEn:=m6_;have NBp_n:=m7_;have NBn_p:=m8_;have NBa_n:=m9_;have NBn_a:=m10_;have NBb_n:=m11_;have NBn_b:=m12_;have NBq_n:=m13_;have NBn_q:=m14_;clear m0_ m1_ m2_ m3_ m4_ m5_ m6_ m7_ m8_ m9_ m10_ m11_ m12_ m13_ m14_ hb hbox hg;have hcz1_n_0 : World.cell? _ ⟨gbn,0,none⟩ = some (.int .i64 0):=(a_h BKn.out 0).trans rfl;have hfz1_n:=a_f BKn.out 0)
  | ((with_reducible refine b_c (t:=3) (p:=9) rfl ?_);refine a_9 (t:=3) (p:=9) (v:=?vo_ws2) (w1:=(wbn.setCell ⟨gbn,0,none⟩ (.int .i64 0))) ?hg ?ho ?hn ?hr ?_;(case ho => rfl);(case hg => rfl);(case hn => rfl);(case hr => first|(go_simp;done)|(go_simp;rfl));intro ws2 hw;have m0_:=a_a.mk ((show ws2.heap[gbp]? = some (.cells #[.slice (some ad) l.length c0] 26 (0,0)) by rw [hw];exact a_v BKp.out (p:=⟨gbn,0,none⟩) NBp_n.out _));have m1_:=a_a.mk ((show ws2.heap[gba]? = some (.cells #[.int .i64 a] 3 (0,0)) by rw [hw];exact a_v BKa.out (p:=⟨gbn,0,none⟩) NBa_n.out _));have m2_:=a_a.mk ((show ws2.heap[gbb]? = some (.cells #[.int .i64 b] 3 (0,0)) by rw [hw];exact a_v BKb.out (p:=⟨gbn,0,none⟩) NBb_n.out _));have m3_:=a_a.mk ((show ws2.heap[gbq]? = some (.cells #[.slice none 0 0] 26 (0,0)) by rw [hw];exact a_v BKq.out (p:=⟨gbn,0,none⟩) NBq_n.out _));have m4_:=a_a.mk ((show ws2.heap[gbn]? = some (.cells #[.int .i64 0] 3 (0,0)) by rw [hw];exact a_D (cs:=#[.int .i64 0]) BKn.out 0 _ rfl));have m5_:=a_a.mk ((show Below w.heap.size w ws2 by rw [hw];exact a_d HB.out GEn.out));clear hw BKp BKa BKb BKq BKn HB;have BKp:=m0_;have BKa:=m1_;have BKb:=m2_;have BKq:=m3_;have BKn:=m4_;have HB:=m5_;clear m0_ m1_ m2_ m3_ m4_ m5_;have hcz3_p_0 : World.cell? _ ⟨gbp,0,none⟩ = some (.slice (some ad) l.length c0):=(a_h BKp.out 0).trans rfl;have hfz3_p:=a_f BKp.out 0;have hcz3_a_0 : World.cell? _ ⟨gba,0,none⟩ = some (.int .i64 a):=(a_h BKa.out 0).trans rfl;have hfz3_a:=a_f BKa.out 0;have hcz3_b_0 : World.cell? _ ⟨gbb,0,none⟩ = some (.int .i64 b):=(a_h BKb.out 0).trans rfl;have hfz3_b:=a_f BKb.out 0)
  | ((with_reducible refine a_u (N:=16) rfl ?_);refine Kd.c_0 (Kd.int .i64) _ 3 ?hg (N:=16) ?hd (xs:=([b] : List Int)) (inner:=[.int .i64 b]) (ok:=fun _ => True) (okp:=fun _ => True) ?hr ?hp (fun _ hk => hk) trivial (Below.refl _ _) (Nat.le_refl _) (by simp) ?_;(case hd => rfl);(case hg => rfl);(case hr => first|(go_simp;done)|(go_simp;rfl));(case hp => exact (Reps.one (show Kd.M (Kd.int .i64) _ _ _ b [.int .i64 b] from rfl) (Reps.none _ _)));intro vns wl4 ho_ hb hg_ hnew_;clear hg_ hnew_;have m0_:=a_a.mk (a_b (g:=gbp) (o:=.cells #[.slice (some ad) l.length c0] 26 (0,0)) BKp.out hb);have m1_:=a_a.mk (a_b (g:=gba) (o:=.cells #[.int .i64 a] 3 (0,0)) BKa.out hb);have m2_:=a_a.mk (a_b (g:=gbb) (o:=.cells #[.int .i64 b] 3 (0,0)) BKb.out hb);have m3_:=a_a.mk (a_b (g:=gbq) (o:=.cells #[.slice none 0 0] 26 (0,0)) BKq.out hb);have m4_:=a_a.mk (a_b (g:=gbn) (o:=.cells #[.int .i64 0] 3 (0,0)) BKn.out hb);have m5_:=a_a.mk (a_i HB.out hb);have m6_:=a_a.mk (Kd.a_0 ho_ HB.out.size);(try clear BKp);(try clear BKa);(try clear BKb);(try clear BKq);(try clear BKn);(try clear HB);have BKp:=m0_;have BKa:=m1_;have BKb:=m2_;have BKq:=m3_;have BKn:=m4_;have HB:=m5_;have HOns:=m6_;clear m0_ m1_ m2_ m3_ m4_ m5_ m6_ hb ho_;obtain ⟨Ans,cns,ens⟩:=Kd.a_W HOns.out;subst ens)
  | (go_at_call 18;(refine (b_x.does 22 #[.pointer (some ⟨gba,0,none⟩),.pointer (some ⟨gbb,0,none⟩),.pointer (some ⟨gbn,0,none⟩)] EG.out w.heap.size (fun k_ => k_ = gbn) k ad c0 l _ _ [b] _ ?s1 HC.out ?s2 ?s3 HB.out.size ?s4 HE.out HP.out HL.out err l' (fun W_ => W_.heap[gbn]? = some (.cells #[.int .i64 n] 3 (0,0))) ?s5 ?s6).mono ?_);(case s1 => exact Kd.a_K HR.out HB.out);(case s2 => exact (Kd.a_B HOns.out).2.2);(case s3 => exact (Kd.a_B HOns.out).2.1);(case s4 => exact fun k_ e_ => e_ ▸ a_k BKn.out);(case s5 => exact fun W_ W2_ h1_ h2_ => (h2_ gbn rfl).trans h1_);(case s6 => exact fun W_ gq_ v_ b_ q_ bq_ r_ => b_B.any k gq_ gba gbb gbn l a b v_ w.heap.size _ W_ err n l' bq_ r_ (a_b BKa.out b_) (a_b BKb.out b_) (a_b BKn.out b_) H0.out H1.out HL.out (fun g_ h_ => by rcases h_ with rfl|rfl|rfl;exact a_k BKa.out;exact a_k BKb.out;exact a_k BKn.out) b_.size GEn.out HB.out.size q_ NBb_n.out NBa_n.out HS.out);rintro e wr ⟨v,rfl,ho_,hbl_,hj_,hk_⟩;rw [← HLL.out] at ho_;clear HOns hcz3_p_0 hfz3_p hcz3_a_0 hfz3_a hcz3_b_0 hfz3_b;have m0_:=a_a.mk ((hk_ gbp (a_k BKp.out) NBp_n.out).trans BKp.out);have m1_:=a_a.mk ((hk_ gba (a_k BKa.out) NBa_n.out).trans BKa.out);have m2_:=a_a.mk ((hk_ gbb (a_k BKb.out) NBb_n.out).trans BKb.out);have m3_:=a_a.mk ((hk_ gbq (a_k BKq.out) NBq_n.out).trans BKq.out);have m4_:=a_a.mk (hj_);have m5_:=a_a.mk (HB.out.trans hbl_);have m6_:=a_a.mk (Kd.a_0 ho_ HB.out.size);(try clear BKp);(try clear BKa);(try clear BKb);(try clear BKq);(try clear BKn);(try clear HB);have BKp:=m0_;have BKa:=m1_;have BKb:=m2_;have BKq:=m3_;have BKn:=m4_;have HB:=m5_;have HOv:=m6_;clear m0_ m1_ m2_ m3_ m4_ m5_ m6_ ho_ hbl_ hj_ hk_;obtain ⟨Av,cv,ev⟩:=Kd.a_W HOv.out;subst ev)
  | ((with_reducible refine a_u (N:=10) rfl ?_);refine a_t ?hg (N:=10) ?hd (cs:=#[.slice none 0 0]) (t:=26) ?hr ?_;(case hd => rfl);(case hg => rfl);(case hr => first|(go_simp;done)|(go_simp;rfl));intro gbt hg wbt hbox hb;have m0_:=a_a.mk (a_b (g:=gbp) (o:=.cells #[.slice (some ad) l.length c0] 26 (0,0)) BKp.out hb);have m1_:=a_a.mk (a_b (g:=gba) (o:=.cells #[.int .i64 a] 3 (0,0)) BKa.out hb);have m2_:=a_a.mk (a_b (g:=gbb) (o:=.cells #[.int .i64 b] 3 (0,0)) BKb.out hb);have m3_:=a_a.mk (a_b (g:=gbq) (o:=.cells #[.slice none 0 0] 26 (0,0)) BKq.out hb);have m4_:=a_a.mk (a_b (g:=gbn) (o:=.cells #[.int .i64 n] 3 (0,0)) BKn.out hb);have m5_:=a_a.mk (Kd.a_G HOv.out hb);have m6_:=a_a.mk (a_i HB.out hb);have m7_:=a_a.mk (hbox);have m8_:=a_a.mk ((by rw [hg];exact HB.out.size : w.heap.size ≤ gbt));have m9_:=a_a.mk ((by rw [hg];exact Nat.ne_of_lt (a_k BKp.out) : gbp ≠ gbt));have m10_:=a_a.mk ((by rw [hg];exact Nat.ne_of_gt (a_k BKp.out) : gbt ≠ gbp));have m11_:=a_a.mk ((by rw [hg];exact Nat.ne_of_lt (a_k BKa.out) : gba ≠ gbt));have m12_:=a_a.mk ((by rw [hg];exact Nat.ne_of_gt (a_k BKa.out) : gbt ≠ gba));have m13_:=a_a.mk ((by rw [hg];exact Nat.ne_of_lt (a_k BKb.out) : gbb ≠ gbt));have m14_:=a_a.mk ((by rw [hg];exact Nat.ne_of_gt (a_k BKb.out) : gbt ≠ gbb));have m15_:=a_a.mk ((by rw [hg];exact Nat.ne_of_lt (a_k BKq.out) : gbq ≠ gbt));have m16_:=a_a.mk ((by rw [hg];exact Nat.ne_of_gt (a_k BKq.out) : gbt ≠ gbq));have m17_:=a_a.mk ((by rw [hg];exact Nat.ne_of_lt (a_k BKn.out) : gbn ≠ gbt));have m18_:=a_a.mk ((by rw [hg];exact Nat.ne_of_gt (a_k BKn.out) : gbt ≠ gbn));(try clear BKp);(try clear BKa);(try clear BKb);(try clear BKq);(try clear BKn);(try clear HOv);(try clear HB);have BKp:=m0_;have BKa:=m1_;have BKb:=m2_;have BKq:=m3_;have BKn:=m4_;have HOv:=m5_;have HB:=m6_;have BKt:=m7_;have GEt:=m8_;have NBp_t:=m9_;have NBt_p:=m10_;have NBa_t:=m11_;have NBt_a:=m12_;have NBb_t:=m13_;have NBt_b:=m14_;have NBq_t:=m15_;have NBt_q:=m16_;have NBn_t:=m17_;have NBt_n:=m18_;clear m0_ m1_ m2_ m3_ m4_ m5_ m6_ m7_ m8_ m9_ m10_ m11_ m12_ m13_ m14_ m15_ m16_ m17_ m18_ hb hbox hg;have hcz5_t_0 : World.cell? _ ⟨gbt,0,none⟩ = some (.slice none 0 0):=(a_h BKt.out 0).trans rfl;have hfz5_t:=a_f BKt.out 0)
  | ((with_reducible refine b_c (t:=26) (p:=10) rfl ?_);refine a_9 (t:=26) (p:=10) (v:=?vo_ws6) (w1:=(wbt.setCell ⟨gbt,0,none⟩ (.slice Av (L).length cv))) ?hg ?ho ?hn ?hr ?_;(case ho => rfl);(case hg => rfl);(case hn => rfl);(case hr => first|(go_simp;done)|(go_simp;rfl));intro ws6 hw;have m0_:=a_a.mk ((show ws6.heap[gbp]? = some (.cells #[.slice (some ad) l.length c0] 26 (0,0)) by rw [hw];exact a_v BKp.out (p:=⟨gbt,0,none⟩) NBp_t.out _));have m1_:=a_a.mk ((show ws6.heap[gba]? = some (.cells #[.int .i64 a] 3 (0,0)) by rw [hw];exact a_v BKa.out (p:=⟨gbt,0,none⟩) NBa_t.out _));have m2_:=a_a.mk ((show ws6.heap[gbb]? = some (.cells #[.int .i64 b] 3 (0,0)) by rw [hw];exact a_v BKb.out (p:=⟨gbt,0,none⟩) NBb_t.out _));have m3_:=a_a.mk ((show ws6.heap[gbq]? = some (.cells #[.slice none 0 0] 26 (0,0)) by rw [hw];exact a_v BKq.out (p:=⟨gbt,0,none⟩) NBq_t.out _));have m4_:=a_a.mk ((show ws6.heap[gbn]? = some (.cells #[.int .i64 n] 3 (0,0)) by rw [hw];exact a_v BKn.out (p:=⟨gbt,0,none⟩) NBn_t.out _));have m5_:=a_a.mk ((show ws6.heap[gbt]? = some (.cells #[.slice Av (L).length cv] 26 (0,0)) by rw [hw];exact a_D (cs:=#[.slice none 0 0]) BKt.out 0 _ rfl));have m6_:=a_a.mk ((show Kd.R (Kd.int .u32) 32 ws6 w.heap.size (fun _ => True) (.slice Av (L).length cv) L by rw [hw];exact Kd.b_2 HOv.out BKt.out (by decide) 0 _));have m7_:=a_a.mk ((show Below w.heap.size w ws6 by rw [hw];exact a_d HB.out GEt.out));clear hw BKp BKa BKb BKq BKn BKt HOv HB;have BKp:=m0_;have BKa:=m1_;have BKb:=m2_;have BKq:=m3_;have BKn:=m4_;have BKt:=m5_;have HOv:=m6_;have HB:=m7_;clear m0_ m1_ m2_ m3_ m4_ m5_ m6_ m7_;have hcz7_t_0 : World.cell? _ ⟨gbt,0,none⟩ = some (.slice Av (L).length cv):=(a_h BKt.out 0).trans rfl;have hfz7_t:=a_f BKt.out 0;have hcz7_n_0 : World.cell? _ ⟨gbn,0,none⟩ = some (.int .i64 n):=(a_h BKn.out 0).trans rfl;have hfz7_n:=a_f BKn.out 0;have hcz7_q_0 : World.cell? _ ⟨gbq,0,none⟩ = some (.slice none 0 0):=(a_h BKq.out 0).trans rfl;have hfz7_q:=a_f BKq.out 0;have hne1_:=NBt_q.out;have hne2_:=NBq_t.out;have hne3_:=NBn_q.out;have hne4_:=NBq_n.out))
 go_region
 go_wp2
 refine bodyPost_ret (b_f rfl _ _ gbq 26 #[.slice Av (L).length cv] (0,0) _ rfl (a_D (cs:=#[.slice none 0 0]) (a_m BKq.out) 0 _ rfl) Tryd.underlying26 rfl (by kernel_rfl)) rfl ?_
 exact ⟨_,rfl,Kd.b_2 (Kd.a_P HOv.out) (a_m BKq.out) (by decide) 0 _,(HB.out.drew).setCell GEq.out _⟩
set_option maxHeartbeats 4000000 in
theorem a_H.bad (k : Nat) (A0 : Option Addr) (c0 : Nat) (l : List Int) (a b : Int) (w : World) (hr : Kd.C (Kd.int .u32) w A0 l.length l) (hc : l.length ≤ c0) (e1 : Int) (hec : a_n.f k l = some e1) (hp : e1 ≠ 0) :
 Calls Tryd.prog 10 #[.agg #[.slice A0 l.length c0],.int .i64 a,.int .i64 b] w fun e w' => ∃ v0_ : Value,e = .returned (.tuple #[.agg #[v0_],.int .i64 0,.int .i64 e1]) ∧ Kd.R (Kd.int .u32) 32 w' w.heap.size (fun _ => True) v0_ [] ∧ Below w.heap.size w w':=by
 have HR:=a_a.mk hr
 have HC:=a_a.mk hc
 have HE:=a_a.mk hec
 have HP:=a_a.mk hp
 clear hr hc hec hp
 have HB:=a_a.mk (Below.refl w.heap.size w)
 go_enter Tryd.func10,Tryd.ntmps10
 go_wp2_with (first
  | ((with_reducible refine a_u (N:=3) rfl ?_);refine a_t ?hg (N:=3) ?hd (cs:=#[.slice A0 l.length c0]) (t:=26) ?hr ?_;(case hd => rfl);(case hg => rfl);(case hr => first|(go_simp;done)|(go_simp;rfl));intro gbp hg wbp hbox hb;have m0_:=a_a.mk (a_i HB.out hb);have m1_:=a_a.mk (hbox);have m2_:=a_a.mk ((by rw [hg];exact HB.out.size : w.heap.size ≤ gbp));(try clear HB);have HB:=m0_;have BKp:=m1_;have GEp:=m2_;clear m0_ m1_ m2_ hb hbox hg)
  | ((with_reducible refine a_u (N:=4) rfl ?_);refine a_t ?hg (N:=4) ?hd (cs:=#[.int .i64 a]) (t:=3) ?hr ?_;(case hd => rfl);(case hg => rfl);(case hr => first|(go_simp;done)|(go_simp;rfl));intro gba hg wba hbox hb;have m0_:=a_a.mk (a_b (g:=gbp) (o:=.cells #[.slice A0 l.length c0] 26 (0,0)) BKp.out hb);have m1_:=a_a.mk (a_i HB.out hb);have m2_:=a_a.mk (hbox);have m3_:=a_a.mk ((by rw [hg];exact HB.out.size : w.heap.size ≤ gba));have m4_:=a_a.mk ((by rw [hg];exact Nat.ne_of_lt (a_k BKp.out) : gbp ≠ gba));have m5_:=a_a.mk ((by rw [hg];exact Nat.ne_of_gt (a_k BKp.out) : gba ≠ gbp));(try clear BKp);(try clear HB);have BKp:=m0_;have HB:=m1_;have BKa:=m2_;have GEa:=m3_;have NBp_a:=m4_;have NBa_p:=m5_;clear m0_ m1_ m2_ m3_ m4_ m5_ hb hbox hg)
  | ((with_reducible refine a_u (N:=5) rfl ?_);refine a_t ?hg (N:=5) ?hd (cs:=#[.int .i64 b]) (t:=3) ?hr ?_;(case hd => rfl);(case hg => rfl);(case hr => first|(go_simp;done)|(go_simp;rfl));intro gbb hg wbb hbox hb;have m0_:=a_a.mk (a_b (g:=gbp) (o:=.cells #[.slice A0 l.length c0] 26 (0,0)) BKp.out hb);have m1_:=a_a.mk (a_b (g:=gba) (o:=.cells #[.int .i64 a] 3 (0,0)) BKa.out hb);have m2_:=a_a.mk (a_i HB.out hb);have m3_:=a_a.mk (hbox);have m4_:=a_a.mk ((by rw [hg];exact HB.out.size : w.heap.size ≤ gbb));have m5_:=a_a.mk ((by rw [hg];exact Nat.ne_of_lt (a_k BKp.out) : gbp ≠ gbb));have m6_:=a_a.mk ((by rw [hg];exact Nat.ne_of_gt (a_k BKp.out) : gbb ≠ gbp));have m7_:=a_a.mk ((by rw [hg];exact Nat.ne_of_lt (a_k BKa.out) : gba ≠ gbb));have m8_:=a_a.mk ((by rw [hg];exact Nat.ne_of_gt (a_k BKa.out) : gbb ≠ gba));(try clear BKp);(try clear BKa);(try clear HB);have BKp:=m0_;have BKa:=m1_;have HB:=m2_;have BKb:=m3_;have GEb:=m4_;have NBp_b:=m5_;have NBb_p:=m6_;have NBa_b:=m7_;have NBb_a:=m8_;clear m0_ m1_ m2_ m3_ m4_ m5_ m6_ m7_ m8_ hb hbox hg)
  | ((with_reducible refine a_u (N:=6) rfl ?_);refine a_t ?hg (N:=6) ?hd (cs:=#[.slice none 0 0]) (t:=26) ?hr ?_;(case hd => rfl);(case hg => rfl);(case hr => first|(go_simp;done)|(go_simp;rfl));intro gbq hg wbq hbox hb;have m0_:=a_a.mk (a_b (g:=gbp) (o:=.cells #[.slice A0 l.length c0] 26 (0,0)) BKp.out hb);have m1_:=a_a.mk (a_b (g:=gba) (o:=.cells #[.int .i64 a] 3 (0,0)) BKa.out hb);have m2_:=a_a.mk (a_b (g:=gbb) (o:=.cells #[.int .i64 b] 3 (0,0)) BKb.out hb);have m3_:=a_a.mk (a_i HB.out hb);have m4_:=a_a.mk (hbox);have m5_:=a_a.mk ((by rw [hg];exact HB.out.size : w.heap.size ≤ gbq));have m6_:=a_a.mk ((by rw [hg];exact Nat.ne_of_lt (a_k BKp.out) : gbp ≠ gbq));have m7_:=a_a.mk ((by rw [hg];exact Nat.ne_of_gt (a_k BKp.out) : gbq ≠ gbp));have m8_:=a_a.mk ((by rw [hg];exact Nat.ne_of_lt (a_k BKa.out) : gba ≠ gbq));have m9_:=a_a.mk ((by rw [hg];exact Nat.ne_of_gt (a_k BKa.out) : gbq ≠ gba));have m10_:=a_a.mk ((by rw [hg];exact Nat.ne_of_lt (a_k BKb.out) : gbb ≠ gbq));have m11_:=a_a.mk ((by rw [hg];exact Nat.ne_of_gt (a_k BKb.out) : gbq ≠ gbb));(try clear BKp);(try clear BKa);(try clear BKb);(try clear HB);have BKp:=m0_;have BKa:=m1_;have BKb:=m2_;have HB:=m3_;have BKq:=m4_;have GEq:=m5_;have NBp_q:=m6_;have NBq_p:=m7_;have NBa_q:=m8_;have NBq_a:=m9_;have NBb_q:=m10_;have NBq_b:=m11_;clear m0_ m1_ m2_ m3_ m4_ m5_ m6_ m7_ m8_ m9_ m10_ m11_ hb hbox hg)
  | ((with_reducible refine a_u (N:=9) rfl ?_);refine a_t ?hg (N:=9) ?hd (cs:=#[.int .i64 0]) (t:=3) ?hr ?_;(case hd => rfl);(case hg => rfl);(case hr => first|(go_simp;done)|(go_simp;rfl));intro gbn hg wbn hbox hb;have m0_:=a_a.mk (a_b (g:=gbp) (o:=.cells #[.slice A0 l.length c0] 26 (0,0)) BKp.out hb);have m1_:=a_a.mk (a_b (g:=gba) (o:=.cells #[.int .i64 a] 3 (0,0)) BKa.out hb);have m2_:=a_a.mk (a_b (g:=gbb) (o:=.cells #[.int .i64 b] 3 (0,0)) BKb.out hb);have m3_:=a_a.mk (a_b (g:=gbq) (o:=.cells #[.slice none 0 0] 26 (0,0)) BKq.out hb);have m4_:=a_a.mk (a_i HB.out hb);have m5_:=a_a.mk (hbox);have m6_:=a_a.mk ((by rw [hg];exact HB.out.size : w.heap.size ≤ gbn));have m7_:=a_a.mk ((by rw [hg];exact Nat.ne_of_lt (a_k BKp.out) : gbp ≠ gbn));have m8_:=a_a.mk ((by rw [hg];exact Nat.ne_of_gt (a_k BKp.out) : gbn ≠ gbp));have m9_:=a_a.mk ((by rw [hg];exact Nat.ne_of_lt (a_k BKa.out) : gba ≠ gbn));have m10_:=a_a.mk ((by rw [hg];exact Nat.ne_of_gt (a_k BKa.out) : gbn ≠ gba));have m11_:=a_a.mk ((by rw [hg];exact Nat.ne_of_lt (a_k BKb.out) : gbb ≠ gbn));have m12_:=a_a.mk ((by rw [hg];exact Nat.ne_of_gt (a_k BKb.out) : gbn ≠ gbb));have m13_:=a_a.mk ((by rw [hg];exact Nat.ne_of_lt (a_k BKq.out) : gbq ≠ gbn));have m14_:=a_a.mk ((by rw [hg];exact Nat.ne_of_gt (a_k BKq.out) : gbn ≠ gbq));(try clear BKp);(try clear BKa);(try clear BKb);(try clear BKq);(try clear HB);have BKp:=m0_;have BKa:=m1_;have BKb:=m2_;have BKq:=m3_;have HB:=m4_;have BKn:=m5_;have GEn:=m6_;have NBp_n:=m7_;have NBn_p:=m8_;have NBa_n:=m9_;have NBn_a:=m10_;have NBb_n:=m11_;have NBn_b:=m12_;have NBq_n:=m13_;have NBn_q:=m14_;clear m0_ m1_ m2_ m3_ m4_ m5_ m6_ m7_ m8_ m9_ m10_ m11_ m12_ m13_ m14_ hb hbox hg;have hcz1_n_0 : World.cell? _ ⟨gbn,0,none⟩ = some (.int .i64 0):=(a_h BKn.out 0).trans rfl;have hfz1_n:=a_f BKn.out 0)
  | ((with_reducible refine b_c (t:=3) (p:=9) rfl ?_);refine a_9 (t:=3) (p:=9) (v:=?vo_ws2) (w1:=(wbn.setCell ⟨gbn,0,none⟩ (.int .i64 0))) ?hg ?ho ?hn ?hr ?_;(case ho => rfl);(case hg => rfl);(case hn => rfl);(case hr => first|(go_simp;done)|(go_simp;rfl));intro ws2 hw;have m0_:=a_a.mk ((show ws2.heap[gbp]? = some (.cells #[.slice A0 l.length c0] 26 (0,0)) by rw [hw];exact a_v BKp.out (p:=⟨gbn,0,none⟩) NBp_n.out _));have m1_:=a_a.mk ((show ws2.heap[gba]? = some (.cells #[.int .i64 a] 3 (0,0)) by rw [hw];exact a_v BKa.out (p:=⟨gbn,0,none⟩) NBa_n.out _));have m2_:=a_a.mk ((show ws2.heap[gbb]? = some (.cells #[.int .i64 b] 3 (0,0)) by rw [hw];exact a_v BKb.out (p:=⟨gbn,0,none⟩) NBb_n.out _));have m3_:=a_a.mk ((show ws2.heap[gbq]? = some (.cells #[.slice none 0 0] 26 (0,0)) by rw [hw];exact a_v BKq.out (p:=⟨gbn,0,none⟩) NBq_n.out _));have m4_:=a_a.mk ((show ws2.heap[gbn]? = some (.cells #[.int .i64 0] 3 (0,0)) by rw [hw];exact a_D (cs:=#[.int .i64 0]) BKn.out 0 _ rfl));have m5_:=a_a.mk ((show Below w.heap.size w ws2 by rw [hw];exact a_d HB.out GEn.out));clear hw BKp BKa BKb BKq BKn HB;have BKp:=m0_;have BKa:=m1_;have BKb:=m2_;have BKq:=m3_;have BKn:=m4_;have HB:=m5_;clear m0_ m1_ m2_ m3_ m4_ m5_;have hcz3_p_0 : World.cell? _ ⟨gbp,0,none⟩ = some (.slice A0 l.length c0):=(a_h BKp.out 0).trans rfl;have hfz3_p:=a_f BKp.out 0;have hcz3_a_0 : World.cell? _ ⟨gba,0,none⟩ = some (.int .i64 a):=(a_h BKa.out 0).trans rfl;have hfz3_a:=a_f BKa.out 0;have hcz3_b_0 : World.cell? _ ⟨gbb,0,none⟩ = some (.int .i64 b):=(a_h BKb.out 0).trans rfl;have hfz3_b:=a_f BKb.out 0)
  | ((with_reducible refine a_u (N:=16) rfl ?_);refine Kd.c_0 (Kd.int .i64) _ 3 ?hg (N:=16) ?hd (xs:=([b] : List Int)) (inner:=[.int .i64 b]) (ok:=fun _ => True) (okp:=fun _ => True) ?hr ?hp (fun _ hk => hk) trivial (Below.refl _ _) (Nat.le_refl _) (by simp) ?_;(case hd => rfl);(case hg => rfl);(case hr => first|(go_simp;done)|(go_simp;rfl));(case hp => exact (Reps.one (show Kd.M (Kd.int .i64) _ _ _ b [.int .i64 b] from rfl) (Reps.none _ _)));intro vns wl4 ho_ hb hg_ hnew_;clear hg_ hnew_;have m0_:=a_a.mk (a_b (g:=gbp) (o:=.cells #[.slice A0 l.length c0] 26 (0,0)) BKp.out hb);have m1_:=a_a.mk (a_b (g:=gba) (o:=.cells #[.int .i64 a] 3 (0,0)) BKa.out hb);have m2_:=a_a.mk (a_b (g:=gbb) (o:=.cells #[.int .i64 b] 3 (0,0)) BKb.out hb);have m3_:=a_a.mk (a_b (g:=gbq) (o:=.cells #[.slice none 0 0] 26 (0,0)) BKq.out hb);have m4_:=a_a.mk (a_b (g:=gbn) (o:=.cells #[.int .i64 0] 3 (0,0)) BKn.out hb);have m5_:=a_a.mk (a_i HB.out hb);have m6_:=a_a.mk (Kd.a_0 ho_ HB.out.size);(try clear BKp);(try clear BKa);(try clear BKb);(try clear BKq);(try clear BKn);(try clear HB);have BKp:=m0_;have BKa:=m1_;have BKb:=m2_;have BKq:=m3_;have BKn:=m4_;have HB:=m5_;have HOns:=m6_;clear m0_ m1_ m2_ m3_ m4_ m5_ m6_ hb ho_;obtain ⟨Ans,cns,ens⟩:=Kd.a_W HOns.out;subst ens)
  | (go_at_call 18;(refine (b_x.bad 22 #[.pointer (some ⟨gba,0,none⟩),.pointer (some ⟨gbb,0,none⟩),.pointer (some ⟨gbn,0,none⟩)] k A0 c0 l _ _ [b] _ ?s1 HC.out ?s2 ?s3 e1 HE.out HP.out).mono ?_);(case s1 => exact Kd.a_K HR.out HB.out);(case s2 => exact (Kd.a_B HOns.out).2.2);(case s3 => exact (Kd.a_B HOns.out).2.1);rintro e wr ⟨rfl,hb⟩;clear HOns hcz3_p_0 hfz3_p hcz3_a_0 hfz3_a hcz3_b_0 hfz3_b;have m0_:=a_a.mk (a_b (g:=gbp) (o:=.cells #[.slice A0 l.length c0] 26 (0,0)) BKp.out hb);have m1_:=a_a.mk (a_b (g:=gba) (o:=.cells #[.int .i64 a] 3 (0,0)) BKa.out hb);have m2_:=a_a.mk (a_b (g:=gbb) (o:=.cells #[.int .i64 b] 3 (0,0)) BKb.out hb);have m3_:=a_a.mk (a_b (g:=gbq) (o:=.cells #[.slice none 0 0] 26 (0,0)) BKq.out hb);have m4_:=a_a.mk (a_b (g:=gbn) (o:=.cells #[.int .i64 0] 3 (0,0)) BKn.out hb);have m5_:=a_a.mk (a_i HB.out hb);(try clear BKp);(try clear BKa);(try clear BKb);(try clear BKq);(try clear BKn);(try clear HB);have BKp:=m0_;have BKa:=m1_;have BKb:=m2_;have BKq:=m3_;have BKn:=m4_;have HB:=m5_;clear m0_ m1_ m2_ m3_ m4_ m5_ hb;have HOv:=a_a.mk (Kd.c_6 (Kd.int .u32) 32 wr w.heap.size (fun _ => True)))
  | ((with_reducible refine a_u (N:=10) rfl ?_);refine a_t ?hg (N:=10) ?hd (cs:=#[.slice none 0 0]) (t:=26) ?hr ?_;(case hd => rfl);(case hg => rfl);(case hr => first|(go_simp;done)|(go_simp;rfl));intro gbt hg wbt hbox hb;have m0_:=a_a.mk (a_b (g:=gbp) (o:=.cells #[.slice A0 l.length c0] 26 (0,0)) BKp.out hb);have m1_:=a_a.mk (a_b (g:=gba) (o:=.cells #[.int .i64 a] 3 (0,0)) BKa.out hb);have m2_:=a_a.mk (a_b (g:=gbb) (o:=.cells #[.int .i64 b] 3 (0,0)) BKb.out hb);have m3_:=a_a.mk (a_b (g:=gbq) (o:=.cells #[.slice none 0 0] 26 (0,0)) BKq.out hb);have m4_:=a_a.mk (a_b (g:=gbn) (o:=.cells #[.int .i64 0] 3 (0,0)) BKn.out hb);have m5_:=a_a.mk (Kd.a_G HOv.out hb);have m6_:=a_a.mk (a_i HB.out hb);have m7_:=a_a.mk (hbox);have m8_:=a_a.mk ((by rw [hg];exact HB.out.size : w.heap.size ≤ gbt));have m9_:=a_a.mk ((by rw [hg];exact Nat.ne_of_lt (a_k BKp.out) : gbp ≠ gbt));have m10_:=a_a.mk ((by rw [hg];exact Nat.ne_of_gt (a_k BKp.out) : gbt ≠ gbp));have m11_:=a_a.mk ((by rw [hg];exact Nat.ne_of_lt (a_k BKa.out) : gba ≠ gbt));have m12_:=a_a.mk ((by rw [hg];exact Nat.ne_of_gt (a_k BKa.out) : gbt ≠ gba));have m13_:=a_a.mk ((by rw [hg];exact Nat.ne_of_lt (a_k BKb.out) : gbb ≠ gbt));have m14_:=a_a.mk ((by rw [hg];exact Nat.ne_of_gt (a_k BKb.out) : gbt ≠ gbb));have m15_:=a_a.mk ((by rw [hg];exact Nat.ne_of_lt (a_k BKq.out) : gbq ≠ gbt));have m16_:=a_a.mk ((by rw [hg];exact Nat.ne_of_gt (a_k BKq.out) : gbt ≠ gbq));have m17_:=a_a.mk ((by rw [hg];exact Nat.ne_of_lt (a_k BKn.out) : gbn ≠ gbt));have m18_:=a_a.mk ((by rw [hg];exact Nat.ne_of_gt (a_k BKn.out) : gbt ≠ gbn));(try clear BKp);(try clear BKa);(try clear BKb);(try clear BKq);(try clear BKn);(try clear HOv);(try clear HB);have BKp:=m0_;have BKa:=m1_;have BKb:=m2_;have BKq:=m3_;have BKn:=m4_;have HOv:=m5_;have HB:=m6_;have BKt:=m7_;have GEt:=m8_;have NBp_t:=m9_;have NBt_p:=m10_;have NBa_t:=m11_;have NBt_a:=m12_;have NBb_t:=m13_;have NBt_b:=m14_;have NBq_t:=m15_;have NBt_q:=m16_;have NBn_t:=m17_;have NBt_n:=m18_;clear m0_ m1_ m2_ m3_ m4_ m5_ m6_ m7_ m8_ m9_ m10_ m11_ m12_ m13_ m14_ m15_ m16_ m17_ m18_ hb hbox hg;have hcz5_t_0 : World.cell? _ ⟨gbt,0,none⟩ = some (.slice none 0 0):=(a_h BKt.out 0).trans rfl;have hfz5_t:=a_f BKt.out 0)
  | ((with_reducible refine b_c (t:=26) (p:=10) rfl ?_);refine a_9 (t:=26) (p:=10) (v:=?vo_ws6) (w1:=(wbt.setCell ⟨gbt,0,none⟩ (.slice none 0 0))) ?hg ?ho ?hn ?hr ?_;(case ho => rfl);(case hg => rfl);(case hn => rfl);(case hr => first|(go_simp;done)|(go_simp;rfl));intro ws6 hw;have m0_:=a_a.mk ((show ws6.heap[gbp]? = some (.cells #[.slice A0 l.length c0] 26 (0,0)) by rw [hw];exact a_v BKp.out (p:=⟨gbt,0,none⟩) NBp_t.out _));have m1_:=a_a.mk ((show ws6.heap[gba]? = some (.cells #[.int .i64 a] 3 (0,0)) by rw [hw];exact a_v BKa.out (p:=⟨gbt,0,none⟩) NBa_t.out _));have m2_:=a_a.mk ((show ws6.heap[gbb]? = some (.cells #[.int .i64 b] 3 (0,0)) by rw [hw];exact a_v BKb.out (p:=⟨gbt,0,none⟩) NBb_t.out _));have m3_:=a_a.mk ((show ws6.heap[gbq]? = some (.cells #[.slice none 0 0] 26 (0,0)) by rw [hw];exact a_v BKq.out (p:=⟨gbt,0,none⟩) NBq_t.out _));have m4_:=a_a.mk ((show ws6.heap[gbn]? = some (.cells #[.int .i64 0] 3 (0,0)) by rw [hw];exact a_v BKn.out (p:=⟨gbt,0,none⟩) NBn_t.out _));have m5_:=a_a.mk ((show ws6.heap[gbt]? = some (.cells #[.slice none 0 0] 26 (0,0)) by rw [hw];exact a_D (cs:=#[.slice none 0 0]) BKt.out 0 _ rfl));have m6_:=a_a.mk ((show Kd.R (Kd.int .u32) 32 ws6 w.heap.size (fun _ => True) (.slice none 0 0) [] by rw [hw];exact Kd.b_2 HOv.out BKt.out (by decide) 0 _));have m7_:=a_a.mk ((show Below w.heap.size w ws6 by rw [hw];exact a_d HB.out GEt.out));clear hw BKp BKa BKb BKq BKn BKt HOv HB;have BKp:=m0_;have BKa:=m1_;have BKb:=m2_;have BKq:=m3_;have BKn:=m4_;have BKt:=m5_;have HOv:=m6_;have HB:=m7_;clear m0_ m1_ m2_ m3_ m4_ m5_ m6_ m7_;have hcz7_t_0 : World.cell? _ ⟨gbt,0,none⟩ = some (.slice none 0 0):=(a_h BKt.out 0).trans rfl;have hfz7_t:=a_f BKt.out 0;have hcz7_n_0 : World.cell? _ ⟨gbn,0,none⟩ = some (.int .i64 0):=(a_h BKn.out 0).trans rfl;have hfz7_n:=a_f BKn.out 0;have hcz7_q_0 : World.cell? _ ⟨gbq,0,none⟩ = some (.slice none 0 0):=(a_h BKq.out 0).trans rfl;have hfz7_q:=a_f BKq.out 0;have hne1_:=NBt_q.out;have hne2_:=NBq_t.out;have hne3_:=NBn_q.out;have hne4_:=NBq_n.out))
 go_region
 go_wp2
 refine bodyPost_ret (b_f rfl _ _ gbq 26 #[.slice none 0 0] (0,0) _ rfl (a_D (cs:=#[.slice none 0 0]) (a_m BKq.out) 0 _ rfl) Tryd.underlying26 rfl (by kernel_rfl)) rfl ?_
 exact ⟨_,rfl,Kd.b_2 (Kd.a_P HOv.out) (a_m BKq.out) (by decide) 0 _,(HB.out.drew).setCell GEq.out _⟩
set_option maxHeartbeats 4000000 in
theorem a_H.lacks (k : Nat) (A0 : Option Addr) (c0 : Nat) (l : List Int) (a b : Int) (w : World) (hr : Kd.C (Kd.int .u32) w A0 l.length l) (hc : l.length ≤ c0) (hec : a_n.f k l = some 0) (hp : a_F.f l [b] = some false) :
 Calls Tryd.prog 10 #[.agg #[.slice A0 l.length c0],.int .i64 a,.int .i64 b] w fun e w' => ∃ v0_ : Value,e = .returned (.tuple #[.agg #[v0_],.int .i64 0,.int .i64 4]) ∧ Kd.R (Kd.int .u32) 32 w' w.heap.size (fun _ => True) v0_ [] ∧ Below w.heap.size w w':=by
 have HR:=a_a.mk hr
 have HC:=a_a.mk hc
 have HE:=a_a.mk hec
 have HP:=a_a.mk hp
 clear hr hc hec hp
 have HB:=a_a.mk (Below.refl w.heap.size w)
 go_enter Tryd.func10,Tryd.ntmps10
 go_wp2_with (first
  | ((with_reducible refine a_u (N:=3) rfl ?_);refine a_t ?hg (N:=3) ?hd (cs:=#[.slice A0 l.length c0]) (t:=26) ?hr ?_;(case hd => rfl);(case hg => rfl);(case hr => first|(go_simp;done)|(go_simp;rfl));intro gbp hg wbp hbox hb;have m0_:=a_a.mk (a_i HB.out hb);have m1_:=a_a.mk (hbox);have m2_:=a_a.mk ((by rw [hg];exact HB.out.size : w.heap.size ≤ gbp));(try clear HB);have HB:=m0_;have BKp:=m1_;have GEp:=m2_;clear m0_ m1_ m2_ hb hbox hg)
  | ((with_reducible refine a_u (N:=4) rfl ?_);refine a_t ?hg (N:=4) ?hd (cs:=#[.int .i64 a]) (t:=3) ?hr ?_;(case hd => rfl);(case hg => rfl);(case hr => first|(go_simp;done)|(go_simp;rfl));intro gba hg wba hbox hb;have m0_:=a_a.mk (a_b (g:=gbp) (o:=.cells #[.slice A0 l.length c0] 26 (0,0)) BKp.out hb);have m1_:=a_a.mk (a_i HB.out hb);have m2_:=a_a.mk (hbox);have m3_:=a_a.mk ((by rw [hg];exact HB.out.size : w.heap.size ≤ gba));have m4_:=a_a.mk ((by rw [hg];exact Nat.ne_of_lt (a_k BKp.out) : gbp ≠ gba));have m5_:=a_a.mk ((by rw [hg];exact Nat.ne_of_gt (a_k BKp.out) : gba ≠ gbp));(try clear BKp);(try clear HB);have BKp:=m0_;have HB:=m1_;have BKa:=m2_;have GEa:=m3_;have NBp_a:=m4_;have NBa_p:=m5_;clear m0_ m1_ m2_ m3_ m4_ m5_ hb hbox hg)
  | ((with_reducible refine a_u (N:=5) rfl ?_);refine a_t ?hg (N:=5) ?hd (cs:=#[.int .i64 b]) (t:=3) ?hr ?_;(case hd => rfl);(case hg => rfl);(case hr => first|(go_simp;done)|(go_simp;rfl));intro gbb hg wbb hbox hb;have m0_:=a_a.mk (a_b (g:=gbp) (o:=.cells #[.slice A0 l.length c0] 26 (0,0)) BKp.out hb);have m1_:=a_a.mk (a_b (g:=gba) (o:=.cells #[.int .i64 a] 3 (0,0)) BKa.out hb);have m2_:=a_a.mk (a_i HB.out hb);have m3_:=a_a.mk (hbox);have m4_:=a_a.mk ((by rw [hg];exact HB.out.size : w.heap.size ≤ gbb));have m5_:=a_a.mk ((by rw [hg];exact Nat.ne_of_lt (a_k BKp.out) : gbp ≠ gbb));have m6_:=a_a.mk ((by rw [hg];exact Nat.ne_of_gt (a_k BKp.out) : gbb ≠ gbp));have m7_:=a_a.mk ((by rw [hg];exact Nat.ne_of_lt (a_k BKa.out) : gba ≠ gbb));have m8_:=a_a.mk ((by rw [hg];exact Nat.ne_of_gt (a_k BKa.out) : gbb ≠ gba));(try clear BKp);(try clear BKa);(try clear HB);have BKp:=m0_;have BKa:=m1_;have HB:=m2_;have BKb:=m3_;have GEb:=m4_;have NBp_b:=m5_;have NBb_p:=m6_;have NBa_b:=m7_;have NBb_a:=m8_;clear m0_ m1_ m2_ m3_ m4_ m5_ m6_ m7_ m8_ hb hbox hg)
  | ((with_reducible refine a_u (N:=6) rfl ?_);refine a_t ?hg (N:=6) ?hd (cs:=#[.slice none 0 0]) (t:=26) ?hr ?_;(case hd => rfl);(case hg => rfl);(case hr => first|(go_simp;done)|(go_simp;rfl));intro gbq hg wbq hbox hb;have m0_:=a_a.mk (a_b (g:=gbp) (o:=.cells #[.slice A0 l.length c0] 26 (0,0)) BKp.out hb);have m1_:=a_a.mk (a_b (g:=gba) (o:=.cells #[.int .i64 a] 3 (0,0)) BKa.out hb);have m2_:=a_a.mk (a_b (g:=gbb) (o:=.cells #[.int .i64 b] 3 (0,0)) BKb.out hb);have m3_:=a_a.mk (a_i HB.out hb);have m4_:=a_a.mk (hbox);have m5_:=a_a.mk ((by rw [hg];exact HB.out.size : w.heap.size ≤ gbq));have m6_:=a_a.mk ((by rw [hg];exact Nat.ne_of_lt (a_k BKp.out) : gbp ≠ gbq));have m7_:=a_a.mk ((by rw [hg];exact Nat.ne_of_gt (a_k BKp.out) : gbq ≠ gbp));have m8_:=a_a.mk ((by rw [hg];exact Nat.ne_of_lt (a_k BKa.out) : gba ≠ gbq));have m9_:=a_a.mk ((by rw [hg];exact Nat.ne_of_gt (a_k BKa.out) : gbq ≠ gba));have m10_:=a_a.mk ((by rw [hg];exact Nat.ne_of_lt (a_k BKb.out) : gbb ≠ gbq));have m11_:=a_a.mk ((by rw [hg];exact Nat.ne_of_gt (a_k BKb.out) : gbq ≠ gbb));(try clear BKp);(try clear BKa);(try clear BKb);(try clear HB);have BKp:=m0_;have BKa:=m1_;have BKb:=m2_;have HB:=m3_;have BKq:=m4_;have GEq:=m5_;have NBp_q:=m6_;have NBq_p:=m7_;have NBa_q:=m8_;have NBq_a:=m9_;have NBb_q:=m10_;have NBq_b:=m11_;clear m0_ m1_ m2_ m3_ m4_ m5_ m6_ m7_ m8_ m9_ m10_ m11_ hb hbox hg)
  | ((with_reducible refine a_u (N:=9) rfl ?_);refine a_t ?hg (N:=9) ?hd (cs:=#[.int .i64 0]) (t:=3) ?hr ?_;(case hd => rfl);(case hg => rfl);(case hr => first|(go_simp;done)|(go_simp;rfl));intro gbn hg wbn hbox hb;have m0_:=a_a.mk (a_b (g:=gbp) (o:=.cells #[.slice A0 l.length c0] 26 (0,0)) BKp.out hb);have m1_:=a_a.mk (a_b (g:=gba) (o:=.cells #[.int .i64 a] 3 (0,0)) BKa.out hb);have m2_:=a_a.mk (a_b (g:=gbb) (o:=.cells #[.int .i64 b] 3 (0,0)) BKb.out hb);have m3_:=a_a.mk (a_b (g:=gbq) (o:=.cells #[.slice none 0 0] 26 (0,0)) BKq.out hb);have m4_:=a_a.mk (a_i HB.out hb);have m5_:=a_a.mk (hbox);have m6_:=a_a.mk ((by rw [hg];exact HB.out.size : w.heap.size ≤ gbn));have m7_:=a_a.mk ((by rw [hg];exact Nat.ne_of_lt (a_k BKp.out) : gbp ≠ gbn));have m8_:=a_a.mk ((by rw [hg];exact Nat.ne_of_gt (a_k BKp.out) : gbn ≠ gbp));have m9_:=a_a.mk ((by rw [hg];exact Nat.ne_of_lt (a_k BKa.out) : gba ≠ gbn));have m10_:=a_a.mk ((by rw [hg];exact Nat.ne_of_gt (a_k BKa.out) : gbn ≠ gba));have m11_:=a_a.mk ((by rw [hg];exact Nat.ne_of_lt (a_k BKb.out) : gbb ≠ gbn));have m12_:=a_a.mk ((by rw [hg];exact Nat.ne_of_gt (a_k BKb.out) : gbn ≠ gbb));have m13_:=a_a.mk ((by rw [hg];exact Nat.ne_of_lt (a_k BKq.out) : gbq ≠ gbn));have m14_:=a_a.mk ((by rw [hg];exact Nat.ne_of_gt (a_k BKq.out) : gbn ≠ gbq));(try clear BKp);(try clear BKa);(try clear BKb);(try clear BKq);(try clear HB);have BKp:=m0_;have BKa:=m1_;have BKb:=m2_;have BKq:=m3_;have HB:=m4_;have BKn:=m5_;have GEn:=m6_;have NBp_n:=m7_;have NBn_p:=m8_;have NBa_n:=m9_;have NBn_a:=m10_;have NBb_n:=m11_;have NBn_b:=m12_;have NBq_n:=m13_;have NBn_q:=m14_;clear m0_ m1_ m2_ m3_ m4_ m5_ m6_ m7_ m8_ m9_ m10_ m11_ m12_ m13_ m14_ hb hbox hg;have hcz1_n_0 : World.cell? _ ⟨gbn,0,none⟩ = some (.int .i64 0):=(a_h BKn.out 0).trans rfl;have hfz1_n:=a_f BKn.out 0)
  | ((with_reducible refine b_c (t:=3) (p:=9) rfl ?_);refine a_9 (t:=3) (p:=9) (v:=?vo_ws2) (w1:=(wbn.setCell ⟨gbn,0,none⟩ (.int .i64 0))) ?hg ?ho ?hn ?hr ?_;(case ho => rfl);(case hg => rfl);(case hn => rfl);(case hr => first|(go_simp;done)|(go_simp;rfl));intro ws2 hw;have m0_:=a_a.mk ((show ws2.heap[gbp]? = some (.cells #[.slice A0 l.length c0] 26 (0,0)) by rw [hw];exact a_v BKp.out (p:=⟨gbn,0,none⟩) NBp_n.out _));have m1_:=a_a.mk ((show ws2.heap[gba]? = some (.cells #[.int .i64 a] 3 (0,0)) by rw [hw];exact a_v BKa.out (p:=⟨gbn,0,none⟩) NBa_n.out _));have m2_:=a_a.mk ((show ws2.heap[gbb]? = some (.cells #[.int .i64 b] 3 (0,0)) by rw [hw];exact a_v BKb.out (p:=⟨gbn,0,none⟩) NBb_n.out _));have m3_:=a_a.mk ((show ws2.heap[gbq]? = some (.cells #[.slice none 0 0] 26 (0,0)) by rw [hw];exact a_v BKq.out (p:=⟨gbn,0,none⟩) NBq_n.out _));have m4_:=a_a.mk ((show ws2.heap[gbn]? = some (.cells #[.int .i64 0] 3 (0,0)) by rw [hw];exact a_D (cs:=#[.int .i64 0]) BKn.out 0 _ rfl));have m5_:=a_a.mk ((show Below w.heap.size w ws2 by rw [hw];exact a_d HB.out GEn.out));clear hw BKp BKa BKb BKq BKn HB;have BKp:=m0_;have BKa:=m1_;have BKb:=m2_;have BKq:=m3_;have BKn:=m4_;have HB:=m5_;clear m0_ m1_ m2_ m3_ m4_ m5_;have hcz3_p_0 : World.cell? _ ⟨gbp,0,none⟩ = some (.slice A0 l.length c0):=(a_h BKp.out 0).trans rfl;have hfz3_p:=a_f BKp.out 0;have hcz3_a_0 : World.cell? _ ⟨gba,0,none⟩ = some (.int .i64 a):=(a_h BKa.out 0).trans rfl;have hfz3_a:=a_f BKa.out 0;have hcz3_b_0 : World.cell? _ ⟨gbb,0,none⟩ = some (.int .i64 b):=(a_h BKb.out 0).trans rfl;have hfz3_b:=a_f BKb.out 0)
  | ((with_reducible refine a_u (N:=16) rfl ?_);refine Kd.c_0 (Kd.int .i64) _ 3 ?hg (N:=16) ?hd (xs:=([b] : List Int)) (inner:=[.int .i64 b]) (ok:=fun _ => True) (okp:=fun _ => True) ?hr ?hp (fun _ hk => hk) trivial (Below.refl _ _) (Nat.le_refl _) (by simp) ?_;(case hd => rfl);(case hg => rfl);(case hr => first|(go_simp;done)|(go_simp;rfl));(case hp => exact (Reps.one (show Kd.M (Kd.int .i64) _ _ _ b [.int .i64 b] from rfl) (Reps.none _ _)));intro vns wl4 ho_ hb hg_ hnew_;clear hg_ hnew_;have m0_:=a_a.mk (a_b (g:=gbp) (o:=.cells #[.slice A0 l.length c0] 26 (0,0)) BKp.out hb);have m1_:=a_a.mk (a_b (g:=gba) (o:=.cells #[.int .i64 a] 3 (0,0)) BKa.out hb);have m2_:=a_a.mk (a_b (g:=gbb) (o:=.cells #[.int .i64 b] 3 (0,0)) BKb.out hb);have m3_:=a_a.mk (a_b (g:=gbq) (o:=.cells #[.slice none 0 0] 26 (0,0)) BKq.out hb);have m4_:=a_a.mk (a_b (g:=gbn) (o:=.cells #[.int .i64 0] 3 (0,0)) BKn.out hb);have m5_:=a_a.mk (a_i HB.out hb);have m6_:=a_a.mk (Kd.a_0 ho_ HB.out.size);(try clear BKp);(try clear BKa);(try clear BKb);(try clear BKq);(try clear BKn);(try clear HB);have BKp:=m0_;have BKa:=m1_;have BKb:=m2_;have BKq:=m3_;have BKn:=m4_;have HB:=m5_;have HOns:=m6_;clear m0_ m1_ m2_ m3_ m4_ m5_ m6_ hb ho_;obtain ⟨Ans,cns,ens⟩:=Kd.a_W HOns.out;subst ens)
  | (go_at_call 18;(refine (b_x.lacks 22 #[.pointer (some ⟨gba,0,none⟩),.pointer (some ⟨gbb,0,none⟩),.pointer (some ⟨gbn,0,none⟩)] k A0 c0 l _ _ [b] _ ?s1 HC.out ?s2 ?s3 HE.out HP.out).mono ?_);(case s1 => exact Kd.a_K HR.out HB.out);(case s2 => exact (Kd.a_B HOns.out).2.2);(case s3 => exact (Kd.a_B HOns.out).2.1);rintro e wr ⟨rfl,hb⟩;clear HOns hcz3_p_0 hfz3_p hcz3_a_0 hfz3_a hcz3_b_0 hfz3_b;have m0_:=a_a.mk (a_b (g:=gbp) (o:=.cells #[.slice A0 l.length c0] 26 (0,0)) BKp.out hb);have m1_:=a_a.mk (a_b (g:=gba) (o:=.cells #[.int .i64 a] 3 (0,0)) BKa.out hb);have m2_:=a_a.mk (a_b (g:=gbb) (o:=.cells #[.int .i64 b] 3 (0,0)) BKb.out hb);have m3_:=a_a.mk (a_b (g:=gbq) (o:=.cells #[.slice none 0 0] 26 (0,0)) BKq.out hb);have m4_:=a_a.mk (a_b (g:=gbn) (o:=.cells #[.int .i64 0] 3 (0,0)) BKn.out hb);have m5_:=a_a.mk (a_i HB.out hb);(try clear BKp);(try clear BKa);(try clear BKb);(try clear BKq);(try clear BKn);(try clear HB);have BKp:=m0_;have BKa:=m1_;have BKb:=m2_;have BKq:=m3_;have BKn:=m4_;have HB:=m5_;clear m0_ m1_ m2_ m3_ m4_ m5_ hb;have HOv:=a_a.mk (Kd.c_6 (Kd.int .u32) 32 wr w.heap.size (fun _ => True)))
  | ((with_reducible refine a_u (N:=10) rfl ?_);refine a_t ?hg (N:=10) ?hd (cs:=#[.slice none 0 0]) (t:=26) ?hr ?_;(case hd => rfl);(case hg => rfl);(case hr => first|(go_simp;done)|(go_simp;rfl));intro gbt hg wbt hbox hb;have m0_:=a_a.mk (a_b (g:=gbp) (o:=.cells #[.slice A0 l.length c0] 26 (0,0)) BKp.out hb);have m1_:=a_a.mk (a_b (g:=gba) (o:=.cells #[.int .i64 a] 3 (0,0)) BKa.out hb);have m2_:=a_a.mk (a_b (g:=gbb) (o:=.cells #[.int .i64 b] 3 (0,0)) BKb.out hb);have m3_:=a_a.mk (a_b (g:=gbq) (o:=.cells #[.slice none 0 0] 26 (0,0)) BKq.out hb);have m4_:=a_a.mk (a_b (g:=gbn) (o:=.cells #[.int .i64 0] 3 (0,0)) BKn.out hb);have m5_:=a_a.mk (Kd.a_G HOv.out hb);have m6_:=a_a.mk (a_i HB.out hb);have m7_:=a_a.mk (hbox);have m8_:=a_a.mk ((by rw [hg];exact HB.out.size : w.heap.size ≤ gbt));have m9_:=a_a.mk ((by rw [hg];exact Nat.ne_of_lt (a_k BKp.out) : gbp ≠ gbt));have m10_:=a_a.mk ((by rw [hg];exact Nat.ne_of_gt (a_k BKp.out) : gbt ≠ gbp));have m11_:=a_a.mk ((by rw [hg];exact Nat.ne_of_lt (a_k BKa.out) : gba ≠ gbt));have m12_:=a_a.mk ((by rw [hg];exact Nat.ne_of_gt (a_k BKa.out) : gbt ≠ gba));have m13_:=a_a.mk ((by rw [hg];exact Nat.ne_of_lt (a_k BKb.out) : gbb ≠ gbt));have m14_:=a_a.mk ((by rw [hg];exact Nat.ne_of_gt (a_k BKb.out) : gbt ≠ gbb));have m15_:=a_a.mk ((by rw [hg];exact Nat.ne_of_lt (a_k BKq.out) : gbq ≠ gbt));have m16_:=a_a.mk ((by rw [hg];exact Nat.ne_of_gt (a_k BKq.out) : gbt ≠ gbq));have m17_:=a_a.mk ((by rw [hg];exact Nat.ne_of_lt (a_k BKn.out) : gbn ≠ gbt));have m18_:=a_a.mk ((by rw [hg];exact Nat.ne_of_gt (a_k BKn.out) : gbt ≠ gbn));(try clear BKp);(try clear BKa);(try clear BKb);(try clear BKq);(try clear BKn);(try clear HOv);(try clear HB);have BKp:=m0_;have BKa:=m1_;have BKb:=m2_;have BKq:=m3_;have BKn:=m4_;have HOv:=m5_;have HB:=m6_;have BKt:=m7_;have GEt:=m8_;have NBp_t:=m9_;have NBt_p:=m10_;have NBa_t:=m11_;have NBt_a:=m12_;have NBb_t:=m13_;have NBt_b:=m14_;have NBq_t:=m15_;have NBt_q:=m16_;have NBn_t:=m17_;have NBt_n:=m18_;clear m0_ m1_ m2_ m3_ m4_ m5_ m6_ m7_ m8_ m9_ m10_ m11_ m12_ m13_ m14_ m15_ m16_ m17_ m18_ hb hbox hg;have hcz5_t_0 : World.cell? _ ⟨gbt,0,none⟩ = some (.slice none 0 0):=(a_h BKt.out 0).trans rfl;have hfz5_t:=a_f BKt.out 0)
  | ((with_reducible refine b_c (t:=26) (p:=10) rfl ?_);refine a_9 (t:=26) (p:=10) (v:=?vo_ws6) (w1:=(wbt.setCell ⟨gbt,0,none⟩ (.slice none 0 0))) ?hg ?ho ?hn ?hr ?_;(case ho => rfl);(case hg => rfl);(case hn => rfl);(case hr => first|(go_simp;done)|(go_simp;rfl));intro ws6 hw;have m0_:=a_a.mk ((show ws6.heap[gbp]? = some (.cells #[.slice A0 l.length c0] 26 (0,0)) by rw [hw];exact a_v BKp.out (p:=⟨gbt,0,none⟩) NBp_t.out _));have m1_:=a_a.mk ((show ws6.heap[gba]? = some (.cells #[.int .i64 a] 3 (0,0)) by rw [hw];exact a_v BKa.out (p:=⟨gbt,0,none⟩) NBa_t.out _));have m2_:=a_a.mk ((show ws6.heap[gbb]? = some (.cells #[.int .i64 b] 3 (0,0)) by rw [hw];exact a_v BKb.out (p:=⟨gbt,0,none⟩) NBb_t.out _));have m3_:=a_a.mk ((show ws6.heap[gbq]? = some (.cells #[.slice none 0 0] 26 (0,0)) by rw [hw];exact a_v BKq.out (p:=⟨gbt,0,none⟩) NBq_t.out _));have m4_:=a_a.mk ((show ws6.heap[gbn]? = some (.cells #[.int .i64 0] 3 (0,0)) by rw [hw];exact a_v BKn.out (p:=⟨gbt,0,none⟩) NBn_t.out _));have m5_:=a_a.mk ((show ws6.heap[gbt]? = some (.cells #[.slice none 0 0] 26 (0,0)) by rw [hw];exact a_D (cs:=#[.slice none 0 0]) BKt.out 0 _ rfl));have m6_:=a_a.mk ((show Kd.R (Kd.int .u32) 32 ws6 w.heap.size (fun _ => True) (.slice none 0 0) [] by rw [hw];exact Kd.b_2 HOv.out BKt.out (by decide) 0 _));have m7_:=a_a.mk ((show Below w.heap.size w ws6 by rw [hw];exact a_d HB.out GEt.out));clear hw BKp BKa BKb BKq BKn BKt HOv HB;have BKp:=m0_;have BKa:=m1_;have BKb:=m2_;have BKq:=m3_;have BKn:=m4_;have BKt:=m5_;have HOv:=m6_;have HB:=m7_;clear m0_ m1_ m2_ m3_ m4_ m5_ m6_ m7_;have hcz7_t_0 : World.cell? _ ⟨gbt,0,none⟩ = some (.slice none 0 0):=(a_h BKt.out 0).trans rfl;have hfz7_t:=a_f BKt.out 0;have hcz7_n_0 : World.cell? _ ⟨gbn,0,none⟩ = some (.int .i64 0):=(a_h BKn.out 0).trans rfl;have hfz7_n:=a_f BKn.out 0;have hcz7_q_0 : World.cell? _ ⟨gbq,0,none⟩ = some (.slice none 0 0):=(a_h BKq.out 0).trans rfl;have hfz7_q:=a_f BKq.out 0;have hne1_:=NBt_q.out;have hne2_:=NBq_t.out;have hne3_:=NBn_q.out;have hne4_:=NBq_n.out))
 go_region
 go_wp2
 refine bodyPost_ret (b_f rfl _ _ gbq 26 #[.slice none 0 0] (0,0) _ rfl (a_D (cs:=#[.slice none 0 0]) (a_m BKq.out) 0 _ rfl) Tryd.underlying26 rfl (by kernel_rfl)) rfl ?_
 exact ⟨_,rfl,Kd.b_2 (Kd.a_P HOv.out) (a_m BKq.out) (by decide) 0 _,(HB.out.drew).setCell GEq.out _⟩
def a_H.f (k : Nat) (l0_0 : List Int) (a1 : Int) (a2 : Int) : Option (List Int × Int × Int) :=
 if l0_0.length < 35184372088832 then (a_n.f k l0_0).bind fun e => if e ≠ 0 then some ([],0,e) else (a_F.f l0_0 [a2]).bind fun ok => if ok = false then some ([],0,4) else (c_C k l0_0 a1 a2).bind fun x => some (if x.1 = 0 then x.2.1 else [],x.2.2,x.1) else none
theorem a_H.mono : ∀ a0 a1 a2 k,LeO (a_H.f k a0 a1 a2) (a_H.f (k + 1) a0 a1 a2):=by
 intro a0 a1 a2 k
 unfold a_H.f
 split
 ·refine LeO.bind (a_n.mono a0 k) (fun e => ?_)
  refine LeO.ite (LeO.refl _) (LeO.bind (LeO.refl _) (fun ok => LeO.ite (LeO.refl _) (LeO.bind ?_ (fun _ => LeO.refl _))))
  unfold c_C
  exact LeO.bind (a_3.mono a0 a1 k) (fun _ => LeO.refl _)
 exact LeO.refl _
theorem a_H.calls (k : Nat) (A0_0 : Option Addr) (c0_0 : Nat) (l0_0 : List Int) (a1 : Int) (a2 : Int) (r1 : List Int) (r2 : Int) (r3 : Int) (w : World) (hr0_0 : Kd.C (Kd.int .u32) w A0_0 l0_0.length l0_0) (hc0_0 : l0_0.length ≤ c0_0) (h : a_H.f k l0_0 a1 a2 = some (r1,r2,r3)) :
 Calls Tryd.prog 10 #[.agg #[.slice A0_0 l0_0.length c0_0],.int .i64 a1,.int .i64 a2] w fun e w' => ∃ v0_ : Value,e = .returned (.tuple #[.agg #[v0_],.int .i64 r2,.int .i64 r3]) ∧ Kd.R (Kd.int .u32) 32 w' w.heap.size (fun _ => True) v0_ r1 ∧ Below w.heap.size w w':=by
 unfold a_H.f at h
 split at h
 case isFalse => cases h
 case isTrue hl =>
 obtain ⟨e,he,h⟩:=Option.bind_eq_some_iff.mp h
 by_cases e0 : e = 0
 case neg =>
  rw [if_pos e0] at h
  injection h with h;injection h with h1 h;injection h with h2 h3
  subst h1 h2 h3
  exact a_H.bad k A0_0 c0_0 l0_0 a1 a2 w hr0_0 hc0_0 e he e0
 subst e0
 rw [if_neg (by simp)] at h
 obtain ⟨ok,hok,h⟩:=Option.bind_eq_some_iff.mp h
 cases ok
 ·rw [if_pos rfl] at h
  injection h with h;injection h with h1 h;injection h with h2 h3
  subst h1 h2 h3
  exact a_H.lacks k A0_0 c0_0 l0_0 a1 a2 w hr0_0 hc0_0 he hok
 rw [if_neg (by simp)] at h
 obtain ⟨⟨err,l',n⟩,hx,h⟩:=Option.bind_eq_some_iff.mp h
 injection h with h;injection h with h1 h;injection h with h2 h3
 subst h2 h3
 obtain ⟨h0,h1'⟩:=a_F.one hok
 obtain ⟨ad,rfl,_⟩:=Kd.b_X hr0_0 a2 h0 h1'
 exact a_H.does k ad c0_0 l0_0 a1 a2 err n l' w hr0_0 hc0_0 hl he hok h0 h1' hx r1 h1.symm
end Go.Proofs.YtkhbffjfclepfaaDoor.Q
end
section
namespace Go.Proofs.YtkhbffjfclepfaaDoor.Q
open Go.RowKit Go.Proofs.YtkhbffjfclepfaaDoorW.PrintWords Go.Proofs.YtkhbffjfclepfaaDoorW.PrintLast Go.Proofs.YtkhbffjfclepfaaDoorW.PrintMore
set_option linter.unusedVariables false
set_option linter.unusedSimpArgs false
def b_w.f (a0 : Int) : Option (Int × Int):=if a0 < 0 then (some (0,2)) else (if a0 > 8 then (some (0,2)) else (if 0 ≤ a0 then (some (((shl .u32 1 a0) - 1) % 4294967296,0)) else (none)))
set_option maxHeartbeats 8000000 in
set_option maxRecDepth 100000 in
theorem b_w.calls (a0 : Int) (r1 : Int) (r2 : Int) (w : World) (h : b_w.f a0 = some (r1,r2)) :
 Calls Tryd.prog 11 #[.int .i64 a0] w fun e w' => e = .returned (.tuple #[.int .u32 r1,.int .i64 r2]) ∧ a_2 w w':=by
 have H : (if a0 < 0 then (some (0,2)) else (if a0 > 8 then (some (0,2)) else (if 0 ≤ a0 then (some (((shl .u32 1 a0) - 1) % 4294967296,0)) else (none)))) = some (r1,r2):=h
 clear h
 by_cases c2 : a0 < 0
 ·rw [if_pos c2] at H
  have c2b0 : decide (a0 < 0) = true:=decide_eq_true c2
  clear c2
  simp only [Option.some.injEq,Prod.mk.injEq] at H
  obtain ⟨rfl,rfl⟩:=H
  go_enter Tryd.func11,Tryd.ntmps11
  go_wp2
  go_ret2
  exact ⟨by first|rfl|(simp;done)|(simp [*];done),by repeat (first|exact a_2.refl _|apply a_2.step)⟩
 rw [if_neg c2] at H
 have c2b0 : decide (a0 < 0) = false:=decide_eq_false c2
 clear c2
 by_cases c3 : a0 > 8
 ·rw [if_pos c3] at H
  have c3b0 : decide (8 < a0) = true:=decide_eq_true c3
  clear c3
  simp only [Option.some.injEq,Prod.mk.injEq] at H
  obtain ⟨rfl,rfl⟩:=H
  go_enter Tryd.func11,Tryd.ntmps11
  go_wp2
  go_ret2
  exact ⟨by first|rfl|(simp;done)|(simp [*];done),by repeat (first|exact a_2.refl _|apply a_2.step)⟩
 rw [if_neg c3] at H
 have c3b0 : decide (8 < a0) = false:=decide_eq_false c3
 clear c3
 by_cases c4 : 0 ≤ a0
 rotate_left
 ·rw [if_neg c4] at H
  exact absurd H (by simp)
 rw [if_pos c4] at H
 have c4b0:=eq_true c4
 have c4b1 : decide (0 ≤ a0) = true:=decide_eq_true c4
 clear c4
 obtain ⟨ji5,hji5⟩ : ∃ j_ : Int,(shl .u32 1 a0) = j_:=⟨_,rfl⟩
 replace H : (some (((ji5) - 1) % 4294967296,0)) = some (r1,r2):=by first|(rw [hji5] at H;exact H)|(simp only [hji5] at H ⊢; exact H)
 have hji5_ : (IntKind.u32.wrap (1 * 2 ^ min a0.toNat 32)) = ji5:=hji5
 have hji5z : a0 ≤ 32 → (IntKind.u32.wrap (1 * 2 ^ a0.toNat)) = ji5:=d_l hji5
 have hji5u : (IntKind.u32.wrap (2 ^ min a0.toNat 32)) = ji5:=by have h_:=hji5_;rw [Int.one_mul] at h_;exact h_
 have hji5v : a0 ≤ 32 → (IntKind.u32.wrap (2 ^ a0.toNat)) = ji5:=fun hle_ => by have h_:=hji5z hle_;rw [Int.one_mul] at h_;exact h_
 simp only [Option.some.injEq,Prod.mk.injEq] at H
 obtain ⟨rfl,rfl⟩:=H
 go_enter Tryd.func11,Tryd.ntmps11
 go_wp2
 go_ret2
 exact ⟨by first|rfl|(simp;done)|(simp only [← hji5] <;> (first|rfl|simp))|(simp [*];done),by repeat (first|exact a_2.refl _|apply a_2.step)⟩
end Go.Proofs.YtkhbffjfclepfaaDoor.Q
end
