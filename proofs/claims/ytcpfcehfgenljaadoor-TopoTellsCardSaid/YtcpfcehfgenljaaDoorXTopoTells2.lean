/- Part 3 of 6 of what the row of TopoTells stands on: contracts over the given program's functions, the plain law, the row; no condition beyond those that each theorem states. -/
import Derived.Test.YtcpfcehfgenljaaDoorXTopoTells1
import Derived.Deep.Quiet
import Derived.Shelf.RegionOpenPlain
section
namespace Go.Proofs.YtcpfcehfgenljaaDoor.Q
open Go.RowKit Go.Proofs.YtcpfcehfgenljaaDoorW.PrintWords Go.Proofs.YtcpfcehfgenljaaDoorW.PrintLast Go.Proofs.YtcpfcehfgenljaaDoorW.PrintMore
set_option linter.unusedVariables false
set_option linter.unusedSimpArgs false
def b_Z.f (a0 : Int) : Option (Int):=if (Go.bits .andNot .u32 a0 255) = 0 then (some 0) else (some 140)
set_option maxHeartbeats 8000000 in
set_option maxRecDepth 100000 in
theorem b_Z.calls (a0 : Int) (r : Int) (w : World) (h : b_Z.f a0 = some r) :
 Calls Tryd.prog 41 #[.int .u32 a0] w fun e w' => e = .returned (.int .i64 r) ∧ b_q w w':=by
 have H : (if (Go.bits .andNot .u32 a0 255) = 0 then (some 0) else (some 140)) = some r:=h
 clear h
 by_cases c2 : (Go.bits .andNot .u32 a0 255) = 0
 ·rw [if_pos c2] at H
  have c2b0 : ((Go.bits .andNot .u32 a0 255) == 0) = true:=beq_iff_eq.mpr c2
  have c2b1 : ((Go.bits .andNot .u32 a0 255) != 0) = false:=bne_eq_false_iff_eq.mpr c2
  clear c2
  obtain rfl:=Option.some.inj H
  go_enter Tryd.func41,Tryd.ntmps41
  go_wp2
  go_ret
  exact ⟨by first|rfl|(simp;done)|(simp [*];done),by repeat (first|exact b_q.refl _|apply b_q.step)⟩
 rw [if_neg c2] at H
 have c2b0 : ((Go.bits .andNot .u32 a0 255) == 0) = false:=beq_eq_false_iff_ne.mpr c2
 have c2b1 : ((Go.bits .andNot .u32 a0 255) != 0) = true:=bne_iff_ne.mpr c2
 obtain rfl:=Option.some.inj H
 go_enter Tryd.func41,Tryd.ntmps41
 go_wp2
 go_ret
 exact ⟨by first|rfl|(simp;done)|(simp [*];done),by repeat (first|exact b_q.refl _|apply b_q.step)⟩
end Go.Proofs.YtcpfcehfgenljaaDoor.Q
end
section
namespace Go.Proofs.YtcpfcehfgenljaaDoor.Q
open Go.RowKit Go.Proofs.YtcpfcehfgenljaaDoorW.PrintWords Go.Proofs.YtcpfcehfgenljaaDoorW.PrintLast Go.Proofs.YtcpfcehfgenljaaDoorW.PrintMore
set_option linter.unusedVariables false
set_option linter.unusedSimpArgs false
set_option maxHeartbeats 1000000 in
theorem h_Q (x k idx : Nat) (w : World) (hx0 : ((x : Int) == 0) = false)
 (key : bits BinOp.and IntKind.u32 (x : Int) (-(x : Int) % 4294967296) * 125613361 % 4294967296 / 134217728 = (idx : Int))
 (hi : idx < 32) (hk : k < 32) (hcell : w.cell? ⟨0,idx,none⟩ = some (.int .u8 k)) :
 Calls Tryd.prog 63 #[.int .u32 x] w fun e w' => e = .returned (.int .i64 k) ∧ w' = w:=by
 go_enter Tryd.func63,Tryd.ntmps63
 go_wp2_with (simp only [key])
 go_ret
 exact ⟨rfl,rfl⟩
theorem g_G (x : Nat) (hx0 : x ≠ 0) (hx : x < 4294967296) (w : World) (ht : c_g w) :
 Calls Tryd.prog 63 #[.int .u32 x] w fun e w' => e = .returned (.int .i64 ((Lib.ctz 32 x : Nat) : Int)) ∧ w' = w:=by
 obtain ⟨hlow,hk⟩:=Lib.lowest_bit 32 x hx0 hx
 obtain ⟨hi,htab⟩:=Lib.deBruijn32_at _ hk
 have hcell:=ht _ hi
 rw [htab] at hcell
 exact h_Q x _ _ w (by simp;omega) (tz32_key x _ hx hx0 hlow) hi hk hcell
end Go.Proofs.YtcpfcehfgenljaaDoor.Q
end
section
namespace Go.Proofs.YtcpfcehfgenljaaDoor.Q
open Go.RowKit Go.Proofs.YtcpfcehfgenljaaDoorW.PrintWords Go.Proofs.YtcpfcehfgenljaaDoorW.PrintLast Go.Proofs.YtcpfcehfgenljaaDoorW.PrintMore
set_option linter.unusedVariables false
set_option linter.unusedSimpArgs false
section
attribute [local go_sem] Oper.semAt_some
theorem c_6 {W : World} {gb k : Nat} {v : Value} (h : k ≠ gb) : (W.setCell ⟨gb,0,none⟩ v).heap[k]? = W.heap[k]?:=Below.heap_setCell W ⟨gb,0,none⟩ v k h
def f_5 {α : Type} (F : Fence) (m : Nat) (P : Program) (gf : Nat) (lb : Array Value) (encs : α → Array Value) (Kp : World → World → Prop) (gb : Nat) (S : List α → Prop) (N : Nat) (w0 : World) : Prop :=
 ∀ (l : Nat) (J : List α → World → Prop) (W : World),Below w0.heap.size w0 W → AbidesFrom W.heap.size J → (∀ s A v,J s A → J s (A.setCell ⟨gb,0,none⟩ v)) →
  (∀ pre x W1,J pre W1 → pre.length < N → YieldAt F (m - 1) P l (encs x) W1 fun e W' => e = .returned (.bool true) ∧ J (pre ++ [x]) W' ∧ Kp W1 W') → J [] W →
  CallsIn F m P gf (#[.func (.yield l) #[] #[]] ++ lb) W fun e W' => (∃ v,e = .returned v) ∧ ∃ xs,S xs ∧ J xs W'
theorem d_X {F : Fence} {n : Nat} {P : Program} {α : Type} {g : Operand} {ps : Array Tmp} {assign body : Code} {Q : Exit → Act → World → Prop} {a : Act} {w : World}
 (hro : F.round = none) (h1 : 1 ≤ n) {gf : Nat} {lb : Array Value} (hg : a.eval g = .func (.func gf) #[] lb) (hFg : F.fn gf) (eg : ∀ args w,(callFunc gf args).run P w = .ok (.enter gf args) w)
 {encs : α → Array Value} {Kp : World → World → Prop} {S : List α → Prop} {N gb : Nat} {w0 : World} (hseq : f_5 F (n - 1) P gf lb encs Kp gb S N w0) (hgb : gb < w.heap.size)
 (hKt : ∀ {A B C : World}, Kp A B → Kp B C → Kp A C) (hKb : ∀ (W : World) (l : Nat) (o o' : Obj),w.heap.size ≤ l → W.heap[l]? = some o → o.isCells = false → o.isWalk = false → Kp W (W.putObj l o')) (hb0 : Below w0.heap.size w0 w) (hps : ∀ x,(encs x).size = ps.size)
 (I : List α → World → Prop) (hI : OwnFrom w.heap.size I) (hIb : ∀ s A v,I s A → I s (A.setCell ⟨gb,0,none⟩ v)) (h0 : I [] w) (a₁ : α → Act)
 (hassign : ∀ (l : Nat) (x : α) (W : World) (K : Act → World → Prop),K (a₁ x) W →
  assign.wpIn (F.inRound l) (n - 1 - 1) P (Exit.then K (fun _ _ _ => False)) { tmps:=(ps.zip (encs x)).foldl (fun t (p,v) => t.setIfInBounds p v) a.tmps,defers:=[] } W)
 (hbody : ∀ (l : Nat) (pre : List α) (x : α) (W : World),I pre W → pre.length < N → body.wpIn (F.inRound l) (n - 1 - 1) P (Exit.then (fun _ W' => KeepsFrom w.heap.size W W' ∧ Kp W W' ∧ I (pre ++ [x]) W') (fun _ _ _ => False)) (a₁ x) W)
 (hdone : ∀ (D : Nat) (xs : List α) (W : World),w.heap.size ≤ D → S xs → I xs W → W.heap[D]? = some (.deferred (some [])) → Q .normal { a with defers := { target:=.collected D,args:=#[] } :: a.defers } W) :
 (Code.rangeFunc g ps assign body).wpIn F n P Q a w:=by
 refine wpIn_rangeFunc fun fn hfn => ?_
 rw [hro]
 obtain ⟨rec,hrec⟩ : ∃ rec : LoopState → Option Code → Loop,rec = fun st pe => { state:=st,pending:=pe,fn,tmps:=a.tmps,params:=ps,assign,body,defers:=w.heap.size } := ⟨_,rfl⟩
 have hL0 : ((w.alloc (.deferred (some []))).alloc (.loop (rec .ready none))).heap[w.heap.size + 1]? = some (.loop (rec .ready none)):=by
  have:=World.alloc_heap_new (w.alloc (.deferred (some []))) (.loop (rec .ready none));rwa [World.size_alloc] at this
 have hD0 : ((w.alloc (.deferred (some []))).alloc (.loop (rec .ready none))).heap[w.heap.size]? = some (.deferred (some [])):=(Below.heap_alloc _ _ _ (by simp)).trans (World.alloc_heap_new w _)
 have hI0 : I [] ((w.alloc (.deferred (some []))).alloc (.loop (rec .ready none))):=hI.alloc _ (hI.alloc _ h0)
 have hB0 : Below w0.heap.size w0 ((w.alloc (.deferred (some []))).alloc (.loop (rec .ready none))):=hb0.trans ((((Below.refl _ w).alloc (Nat.le_refl _) _).alloc (by simp) _).mono hb0.size)
 have hZ0 : ((w.alloc (.deferred (some []))).alloc (.loop (rec .ready none))).heap.size = w.heap.size + 2:=by simp
 have hent:=run_enterLoop_outer (P:=P) (w:=w) fn a.tmps ps assign body
 rw [show (Loop.mk .ready none fn a.tmps ps assign body w.heap.size) = rec .ready none by rw [hrec]] at hent
 generalize (w.alloc (.deferred (some []))).alloc (.loop (rec .ready none)) = W1 at *
 refine ⟨w.heap.size + 1,[{ target:=.collected w.heap.size,args:=#[] }],W1, { target:=.fn (.func gf) lb,args:=#[.func (.yield (w.heap.size + 1)) #[] #[]] }, W1,gf,#[.func (.yield (w.heap.size + 1)) #[] #[]] ++ lb,W1,hent,?_,?_,?_,fun _ => h1,?_⟩
 ·simp only [resolve,hg];simp [go_sem]
 ·intro f' hf';simp [Target.leads] at hf';subst hf';exact hFg
 ·simp [invoke,go_sem,eg]
 refine (hseq (w.heap.size + 1) (fun pre W => I pre W ∧ W.heap[w.heap.size + 1]? = some (.loop (rec .ready none)) ∧ W.heap[w.heap.size]? = some (.deferred (some []))) W1 hB0 ?_ ?_ ?_ ⟨hI0,hL0,hD0⟩).mono ?_
 ·intro s A B row hs hg' hr
  have hr' : ∀ r,row = some r → ∃ o : Obj,A.heap[r]? = some o ∧ o.isWalk = true:=fun r e => (hr r e).2
  exact ⟨hI s A B row hs.1 hg' (fun r e => by obtain ⟨hB,o,ho,hw⟩:=hr r e;exact ⟨by omega,o,ho,Obj.not_cells_of_walk hw⟩),(grownBy_keeps hg' hr' hs.2.1 rfl).trans hs.2.1,(grownBy_keeps hg' hr' hs.2.2 rfl).trans hs.2.2⟩
 ·intro s A v hs
  exact ⟨hIb s A v hs.1,(c_6 (by omega)).trans hs.2.1,(c_6 (by omega)).trans hs.2.2⟩
 ·rintro pre x W ⟨hi,hl,hk⟩ hlen
  have hlt : w.heap.size + 1 < W.heap.size:=(Array.getElem?_eq_some_iff.1 hl).1
  have hy:=run_yield (P:=P) (args:=encs x) hl (by rw [hrec];exact hps x)
  rw [hrec] at hy
  refine ⟨fn,_,assign,body,hy,roundIn_of_wpIn hfn (hassign _ x W _ ⟨_,run_beginRound hl (by rw [hrec]),?_⟩)⟩
  have hl2 : (W.putObj (w.heap.size + 1) (.loop { rec .ready none with state:=.busy })).heap[w.heap.size + 1]? = some (.loop { rec .ready none with state:=.busy }):=World.putObj_heap_same hlt
  have hk2 : (W.putObj (w.heap.size + 1) (.loop { rec .ready none with state:=.busy })).heap[w.heap.size]? = some (.deferred (some [])):=(World.putObj_heap_other (by omega)).trans hk
  refine wpIn_mono (hbody _ pre x _ (hI.putObj _ hi (by omega) hl rfl) hlen) ?_
  intro e a3 W3 hp
  cases e with
  | normal =>
   obtain ⟨hk3,hkp3,hi3⟩:=hp
   have hl3:=hk3.same _ _ (by omega) hl2 rfl
   have hend:=run_endRound (P:=P) none hl3
   rw [hrec] at hend
   rw [hrec] at hl3
   exact ⟨_,_,hend,rfl,⟨hI.putObj _ hi3 (by omega) hl3 rfl,by rw [hrec];exact World.putObj_heap_same (Array.getElem?_eq_some_iff.1 hl3).1,(World.putObj_heap_other (by omega)).trans (hk3.same _ _ (Nat.le_refl _) hk2 rfl)⟩,hKt (hKt (hKb _ _ _ _ (by omega) hl rfl rfl) hkp3) (hKb _ _ _ _ (by omega) hl3 rfl rfl)⟩
  | ret => exact hp.elim
  | exit id => exact hp.elim
  | goto t => exact hp.elim
  | panic ch => exact hp.elim
  | outgrown => exact hp.elim
 rintro e W2 ⟨⟨v,rfl⟩,xs,hS,hi,hl,hk⟩
 exact ⟨none,_,by have:=run_endLoop (P:=P) hl (by rw [hrec];simp);rw [hrec] at this;exact this,hdone _ xs _ (Nat.le_refl _) hS (hI.putObj _ hi (by omega) hl rfl) ((World.putObj_heap_other (by omega)).trans hk)⟩
def CpK (n₀ g : Nat) (A C : World) : Prop:=Below n₀ A C ∧ C.heap[g]? = A.heap[g]?
theorem CpK.trans {n₀ g : Nat} {A B C : World} (h : CpK n₀ g A B) (k : CpK n₀ g B C) : CpK n₀ g A C:=⟨h.1.trans k.1,k.2.trans h.2⟩
def h_w (w : World) (g : Nat) : Nat:=match w.cell? ⟨g,0,none⟩ with|some (.int _ z) => z.toNat|_ => 0
theorem f_p {w : World} {g m : Nat} (h : w.cell? ⟨g,0,none⟩ = some (.int .u32 (m : Int))) : h_w w g = m:=by unfold h_w;rw [h];simp
theorem f_C (m : Nat) (h : m ≠ 0) : m &&& (m - 1) < m:=Nat.lt_of_le_of_lt Nat.and_le_right (by omega)
set_option maxRecDepth 100000 in
set_option maxHeartbeats 4000000 in
theorem e_U (n : Nat) (hn : 2 ≤ n) (g n₀ s : Nat) (hs : s < 4294967296) (w : World) (hn₀ : n₀ ≤ w.heap.size) (hgn : n₀ ≤ g) (hb0 : w.heap[g]? = some (.cells #[.int .u32 (s : Int)] 45 (0,0))) (ht : c_g w) (h0n : 0 < n₀) :
 f_5 Fence.wide n Tryd.prog 62 #[.pointer (some ⟨g,0,none⟩)] (fun x : Nat => #[.int .i64 (x : Int)]) (CpK n₀ g) g (fun xs => xs = d_n (s &&& 255)) 8 w:=by
 intro l J W hW hJ hJg hY h0
 refine callsIn_of_wp Tryd.func62 rfl trivial ?_ rfl
 simp only [Tryd.ntmps62,List.size_toArray,List.length_cons,List.length_nil,Nat.reduceAdd,Nat.reduceSub,Array.replicate_succ,Array.replicate_zero,List.push_toArray,List.append_toArray,List.nil_append,List.cons_append]
 have hg : W.heap[g]? = some (.cells #[.int .u32 (s : Int)] 45 (0,0)):=(hW.block g (a_K hb0)).trans hb0
 have hT : c_g W:=ht.below hW
 have hc:=(a_h hg 0).trans rfl
 have hf:=a_p hg 0
 have HY:=a_b.mk hY
 have HJ:=a_b.mk hJ
 have HJG:=a_b.mk hJg
 have HT:=a_b.mk hT
 have H0:=a_b.mk h0
 have HG:=a_b.mk hg
 have HE : bits .and .u32 (s : Int) 255 = ((s &&& 255 : Nat) : Int):=bits_and_u32_nat s 255 hs (by decide)
 clear hY hJ hJg hg hT ht h0 hb0 hW
 gi_wp2_with (simp only [HE])
 gi_loopw [5] (fun _ wr => ∃ (pre : List Nat) (m : Nat),m < 256 ∧ a_b (d_n (s &&& 255) = pre ++ d_n m) ∧ a_b (J pre wr) ∧ a_b (Below n₀ W wr) ∧ a_b (wr.heap[g]? = some (.cells #[.int .u32 (m : Int)] 45 (0,0))))
  (fun _ wr => h_w wr g)
 case atStart => exact ⟨[],s &&& 255,Nat.lt_succ_of_le Nat.and_le_right,⟨rfl⟩,⟨HJG.out _ _ _ H0.out⟩,⟨(Below.refl _ _).setCell (p:=⟨g,0,none⟩) hgn _⟩,⟨b_p HG.out 0 _ rfl⟩⟩
 case round =>
  obtain ⟨pre,m,hm,HL,HJs,HB,HG2⟩:=hrel
  have hmc : wr.cell? ⟨g,0,none⟩ = some (.int .u32 (m : Int)):=(a_h HG2.out 0).trans rfl
  by_cases hm0 : m = 0
  ·subst hm0
   gi_wp2
   go_end0
   exact ⟨⟨_,rfl⟩,_,by have:=HL.out;rw [g_u,List.append_nil] at this;exact this.symm,HJs.out⟩
  have hne : ((m : Int) != 0) = true:=by simp;omega
  have hstep:=g_t m hm hm0
  have hlen : pre.length < 8:=by
   have h1:=f_h (s &&& 255)
   rw [HL.out,hstep,List.length_append,List.length_cons] at h1
   omega
  have HT2 : a_b (c_g wr):=⟨fun j hj => (HB.out.cell (p:=⟨0,j,none⟩) h0n).trans (HT.out j hj)⟩
  obtain ⟨fn,tmps,assign,body,hy,hR⟩:=HY.out pre (Lib.ctz 32 m) wr HJs.out hlen
  have HR:=a_b.mk hR
  have HS:=a_b.mk hstep
  have HM0:=a_b.mk hm0
  clear hR hstep hm0
  have hf49 : Fence.wide.fn 63:=trivial
  have hn1 : 1 ≤ n:=by omega
  gi_wp2_with (first|(gi_at_call 63;refine (callsIn_wide.2 (g_G m HM0.out (by omega) _ HT2.out)).mono ?_;rintro e w' ⟨rfl,rfl⟩)|(refine HR.out.mono ?_;rintro e W3 ⟨rfl,hJ3,hk3⟩;have HJ3:=a_b.mk hJ3;have HK3:=a_b.mk hk3;have G3:=a_b.mk (hk3.2.trans HG2.out);clear hJ3 hk3;have c3 : W3.cell? ⟨g,0,none⟩ = some (.int .u32 (m : Int)):=(a_h G3.out 0).trans rfl;have f3:=a_p G3.out 0;have z3:=a_K G3.out))
  have hE2 : bits BinOp.and IntKind.u32 (m : Int) (((m : Int) - 1) % 4294967296) = ((m &&& (m - 1) : Nat) : Int):=by
   have hm0:=HM0.out
   rw [show ((m : Int) - 1) % 4294967296 = ((m - 1 : Nat) : Int) by omega]
   exact bits_and_u32_nat m (m - 1) (by omega) (by omega)
  rw [hE2]
  have B3 : (W3.setCell ⟨g,0,none⟩ (.int .u32 ((m &&& (m - 1) : Nat) : Int))).heap[g]? = some (.cells #[.int .u32 ((m &&& (m - 1) : Nat) : Int)] 45 (0,0)):=b_p G3.out 0 _ rfl
  refine ⟨⟨pre ++ [Lib.ctz 32 m],m &&& (m - 1),Nat.lt_of_le_of_lt Nat.and_le_left hm,⟨by rw [HL.out,HS.out];simp⟩,⟨HJG.out _ _ _ HJ3.out⟩,⟨(HB.out.trans HK3.out.1).setCell (p:=⟨g,0,none⟩) hgn _⟩,⟨B3⟩⟩,?_⟩
  rw [f_p ((a_h B3 0).trans rfl),f_p hmc]
  exact f_C m HM0.out
set_option maxRecDepth 100000 in
set_option maxHeartbeats 4000000 in
theorem e_s (n : Nat) (hn : 4 ≤ n) (g s : Nat) (hs : s < 4294967296) (w : World) (hb0 : w.heap[g]? = some (.cells #[.int .u32 (s : Int)] 45 (0,0))) (ht : c_g w) (h0g : 0 < g) :
 CallsIn Fence.wide n Tryd.prog 61 #[.slice none 0 0,.func (.func 62) #[] #[.pointer (some ⟨g,0,none⟩)]] w fun e W' => ∃ v,e = .returned v ∧ W'.ownsRow w.heap.size 3 1 v (d_n (s &&& 255)).length ((d_n (s &&& 255)).map fun x : Nat => Value.int .i64 (x : Int)) ∧ Below g w W':=by
 have h1 : 1 ≤ n:=by omega
 have hgl:=a_K hb0
 obtain ⟨i0,hi,hz0,hz1,hz2⟩:=info_parts info3
 refine callsIn_of_wp_marks Tryd.func61 rfl trivial ?_ rfl
 simp only [Tryd.ntmps61,List.size_toArray,List.length_cons,List.length_nil,Nat.reduceAdd,Nat.reduceSub,Array.replicate_succ,Array.replicate_zero,List.push_toArray,List.append_toArray,List.nil_append,List.cons_append]
 have HT:=a_b.mk ht
 have HB0:=a_b.mk hb0
 clear ht hb0
 gi_wp2
 have bO:=Boxed.new w 46 (.slice none 0 0)
 have hB0 : Below g w (w.alloc (.cells #[.slice none 0 0] 46)):=(Below.refl _ w).alloc (by omega) _
 have hBw : Below w.heap.size w (w.alloc (.cells #[.slice none 0 0] 46)):=(Below.refl _ w).alloc (Nat.le_refl _) _
 refine d_X (w0:=w.alloc (.cells #[.slice none 0 0] 46)) rfl h1 (gf:=62) (lb:=#[.pointer (some ⟨g,0,none⟩)]) rfl trivial (enters_of Tryd.func62 (by kernel_rfl) rfl)
  (e_U (n - 1) (by omega) g g s hs _ (by simp;omega) (Nat.le_refl _) ((hBw.block g hgl).trans HB0.out) (HT.out.below hBw) h0g) (by simp;omega) CpK.trans (fun W l o o' hl ho hc hw => ⟨belowK_b (w:=w.alloc (.cells #[.slice none 0 0] 46)) (by simp;omega) W l o o' hl ho hc hw,World.putObj_heap_other (by simp at hl;omega)⟩) (Below.refl _ _) (fun _ => rfl)
  (fun pre W => (∃ v,Boxed W w.heap.size 46 v ∧ W.ownsRow w.heap.size 3 1 v pre.length (pre.map fun x : Nat => Value.int .i64 (x : Int)) ∧ True) ∧ Below g w W)
  (OwnFrom.and (Own.from (holdsRow_own w.heap.size w.heap.size 46 3 1 (fun pre : List Nat => pre.length) (fun pre => pre.map fun x : Nat => Value.int .i64 (x : Int)) (fun _ _ => True)) _) (ownFrom_below (by omega) (by simp;omega)))
  (fun pre A u ⟨⟨v,hv,hr,_⟩,hb⟩ => ⟨⟨v,(Below.heap_setCell A ⟨g,0,none⟩ u w.heap.size (by show w.heap.size ≠ g;omega)).trans hv,g_a hr (fun k hk => Below.heap_setCell A ⟨g,0,none⟩ u k (by have:=d_c hr k hk;show k ≠ g;omega)),trivial⟩,hb.setCell (p:=⟨g,0,none⟩) (Nat.le_refl _) u⟩)
  ⟨⟨_,bO,World.ownsRow_nil _ _ _ _,trivial⟩,hB0⟩
  (fun x => { tmps:=#[.slice none 0 0,.func (.func 62) #[] #[.pointer (some ⟨g,0,none⟩)],.pointer (some ⟨w.heap.size,0,none⟩),undef,.slice none 0 0,.int .i64 (x : Int),.func (.func 62) #[] #[.pointer (some ⟨g,0,none⟩)],.int .i64 (x : Int),undef,undef,undef,undef,undef],defers:=[] }) ?assign ?body ?done
 case assign =>
  intro l x W K hK
  gi_wp2
  exact hK
 case body =>
  rintro l pre x W ⟨⟨v,hv,hrow,_⟩,hB⟩ hlt
  have hc:=hv.cell
  have hmx : 8 ≤ maxLen:=by decide
  gi_wp2_with (gi_at_builtin;refine wpListIn_append_own _ rfl _ _ 46 rfl w.heap.size 3 i0 (.int .i64 0) 1 8 Tryd.underlying46 hi hz0 hz1 hz2 rfl (by decide) _ _ _ rfl (hrow.alloc _) ⟨W.heap.size,0,none⟩ 1 1 [.int .i64 (x : Int)] rfl rfl (cell_one_new _ _ _) (by simp [Value.oneCell']) (by omega) (by omega) (by have:=hv.lt;simp;omega) ?_;intro v' w1 hown' hgrow _;obtain ⟨g',cap',rfl⟩:=ownsRow_succ hown';obtain ⟨hv1,hv2,hr2,hk2,hb2⟩:=hv.appended (by decide) hrow (Nat.le_of_lt hv.lt) (Nat.le_refl _) hown' hgrow;have hc1:=hv1.cell;have hf1:=hv1.frozen)
  exact ⟨hk2.from _,⟨hb2.mono (by omega),hb2.block _ (by omega)⟩,⟨_,hv2,by simpa using hr2,trivial⟩,hB.trans (hb2.mono (by omega))⟩
 case done =>
  rintro D ys W hD rfl ⟨⟨v,hv,hrow,_⟩,hB⟩ hK
  have hc:=hv.cell
  gi_wp2
  refine ⟨by simp,.inl ⟨_,_,rfl,run_takeDeferred hK,?_⟩⟩
  exact ⟨_,results_tmp rfl _ _ _,v,rfl,ownsRow_putObj hrow _ hK rfl,hB.trans (belowK_b (w:=w) (by omega) W D _ _ (by simp at hD;omega) hK rfl rfl)⟩
set_option maxHeartbeats 1000000 in
theorem f_g (n : Nat) (hn : 5 ≤ n) (g s : Nat) (hs : s < 4294967296) (w : World) (hb0 : w.heap[g]? = some (.cells #[.int .u32 (s : Int)] 45 (0,0))) (ht : c_g w) (h0g : 0 < g) :
 CallsIn Fence.wide n Tryd.prog 54 #[.func (.func 62) #[] #[.pointer (some ⟨g,0,none⟩)]] w fun e W' => ∃ v,e = .returned v ∧ W'.ownsRow w.heap.size 3 1 v (d_n (s &&& 255)).length ((d_n (s &&& 255)).map fun x : Nat => Value.int .i64 (x : Int)) ∧ Below g w W':=by
 have hf : Fence.wide.fn 61:=trivial
 have hn1 : 1 ≤ n:=by omega
 have HC:=a_b.mk (e_s (n - 1) (by omega) g s hs w hb0 ht h0g)
 clear hb0 ht
 refine callsIn_of_wp Tryd.func54 rfl trivial ?_ rfl
 simp only [Tryd.ntmps54,List.size_toArray,List.length_cons,List.length_nil,Nat.reduceAdd,Nat.reduceSub,Array.replicate_succ,Array.replicate_zero,List.push_toArray,List.append_toArray,List.nil_append,List.cons_append]
 gi_wp2_with (gi_at_call 61;refine HC.out.mono ?_;rintro e w' ⟨v,rfl,hrow,hb⟩;have HR:=a_b.mk hrow;have HB:=a_b.mk hb;clear hrow hb)
 go_ret
 exact ⟨v,rfl,HR.out,HB.out⟩
theorem g_5.calls (s : Nat) (w : World) :
 Calls Tryd.prog 55 #[.int .u32 (s : Int)] w fun e w' => e = .returned (.func (.func 62) #[] #[.pointer (some ⟨w.heap.size,0,none⟩)]) ∧ w' = w.alloc (.cells #[.int .u32 (s : Int)] 45):=by
 go_enter Tryd.func55,Tryd.ntmps55
 go_wp2
 go_ret
 exact ⟨rfl,rfl⟩
def c_z.f (a0 : Int) : Option (List Int):=if 0 ≤ a0 ∧ a0 < 4294967296 then some ((d_n (a0.toNat &&& 255)).map fun x : Nat => (x : Int)) else none
set_option maxHeartbeats 1000000 in
theorem c_z.calls (a0 : Int) (r : List Int) (w : World) (ht : c_g w) (h : c_z.f a0 = some r) :
 Calls Tryd.prog 42 #[.int .u32 a0] w fun e w' => ∃ v0_ : Value,e = .returned (v0_) ∧ Kd.R (Kd.int .i64) 3 w' w.heap.size (fun _ => True) v0_ r ∧ Below w.heap.size w w':=by
 unfold c_z.f at h
 split at h
 case isFalse => cases h
 case isTrue hs =>
 obtain rfl:=Option.some.inj h
 obtain ⟨s,rfl⟩ : ∃ s : Nat,a0 = (s : Int):=⟨a0.toNat,by omega⟩
 simp only [Int.toNat_natCast] at h ⊢
 have hs2 : s < 4294967296:=by omega
 have h0:=World.block_lt_of_cell? w _ (ht 0 (by decide))
 have hc:=f_g 6 (by omega) w.heap.size s hs2 (w.alloc (.cells #[.int .u32 (s : Int)] 45)) (c_4 w _) (ht.below ((Below.refl _ w).alloc (Nat.le_refl _) _)) (by show 0 < w.heap.size;simp at h0;omega)
 have HC:=a_b.mk hc
 clear hc h ht
 refine (callsIn_wide (n:=7)).1 ?_
 have hf1 : Fence.wide.fn 54:=trivial
 have hf2 : Fence.wide.fn 55:=trivial
 refine callsIn_of_wp Tryd.func42 rfl trivial ?_ rfl
 simp only [Tryd.ntmps42,List.size_toArray,List.length_cons,List.length_nil,Nat.reduceAdd,Nat.reduceSub,Array.replicate_succ,Array.replicate_zero,List.push_toArray,List.append_toArray,List.nil_append,List.cons_append]
 gi_wp2_with (first
  | (gi_at_call 55;refine (callsIn_wide.2 (g_5.calls s w)).mono ?_;rintro e w' ⟨rfl,rfl⟩)
  | (gi_at_call 54;refine HC.out.mono ?_;rintro e w' ⟨v,rfl,hrow,hb⟩;have HR:=a_b.mk hrow;have HB:=a_b.mk hb;clear hrow hb))
 go_ret
 refine ⟨v,rfl,Kd.e_R (enc:=Value.int .i64) (h1:=fun _ => rfl) ?_ (fun _ _ => trivial),((Below.refl _ w).alloc (Nat.le_refl _) _).trans HB.out⟩
 have hr:=e_E HR.out (show w.heap.size ≤ (w.alloc (.cells #[.int .u32 (s : Int)] 45)).heap.size by simp)
 simpa [encs,Function.comp_def] using hr
end
end Go.Proofs.YtcpfcehfgenljaaDoor.Q
end
section
namespace Go.Proofs.YtcpfcehfgenljaaDoor.Q
open Go.RowKit Go.Proofs.YtcpfcehfgenljaaDoorW.PrintWords Go.Proofs.YtcpfcehfgenljaaDoorW.PrintLast Go.Proofs.YtcpfcehfgenljaaDoorW.PrintMore
set_option linter.unusedVariables false
set_option linter.unusedSimpArgs false
section
attribute [local go_sem] Oper.semAt_some
def f_x (d : List Int) (j : Nat) : List Int:=(d.set (j + 1) (rd d (j : Int))).set j (rd d ((j + 1 : Nat) : Int))
def f_o (cf : Int → Int → Int) : Nat → List Int → List Int
 | 0,d => d
 | j + 1,d => if cf (rd d ((j + 1 : Nat) : Int)) (rd d (j : Int)) < 0 then f_o cf j (f_x d j) else d
def d_g (cf : Int → Int → Int) : Nat → Nat → List Int → List Int
 | 0,_,d => d
 | m + 1,i,d => d_g cf m (i + 1) (f_o cf i d)
theorem h_M (d : List Int) (j : Nat) : (f_x d j).length = d.length:=by simp [f_x]
theorem e_2 {d : List Int} {j : Nat} (h : j < d.length) : rd d (j : Int) ∈ d:=by unfold rd;simp [h]
theorem h_L {d : List Int} {j : Nat} {P : Int → Prop} (h : ∀ x ∈ d,P x) (hj : j + 1 < d.length) : ∀ x ∈ f_x d j,P x:=by
 intro x hx
 unfold f_x at hx
 rcases List.mem_or_eq_of_mem_set hx with hx|rfl
 ·rcases List.mem_or_eq_of_mem_set hx with hx|rfl
  ·exact h x hx
  exact h _ (e_2 (by omega))
 exact h _ (e_2 hj)
structure b_H (w : World) where
 W : World
 h : Below w.heap.size w W
instance (w : World) : Inhabited (b_H w):=⟨⟨w,Below.refl _ _⟩⟩
theorem wp_region_quiet_below {P : Program} {id : Nat} {Q : Exit → Act → World → Prop} {a : Act} {w : World} {l : List Oper} (hm : P.follows .mixedOrders = true) (hB : Region.lexB .any l.toArray = true)
 (h : wpQuiet P l.toArray (fun w' => ∃ p : b_H w,w' = p.W) (fun a' => ∀ w',(∃ p : b_H w,w' = p.W) → Q .normal a' w') l a) : (Code.region id l.toArray true).wp P Q a w :=
 wp_region_quiet (C:=fun w' => ∃ p : b_H w,w' = p.W) hm hB ⟨⟨_,c_J (Below.refl _ _)⟩,rfl⟩ (by simpa using h)
theorem b_H.calls {P : Program} {f : FuncId} {args : Array Value} {w : World} {p : b_H w} {v : Value} (h : Calls P f args p.W fun e w' => e = .returned v ∧ Below p.W.heap.size p.W w') :
 Calls P f args p.W fun e w'' => e = .returned v ∧ ∃ q : b_H w,w'' = q.W :=
 h.mono fun _ _ ⟨he,hb⟩ => ⟨he,⟨_,p.h.trans (hb.mono p.h.size)⟩,rfl⟩
theorem b_H.cell {w : World} {a : Addr} {v : Value} (h : w.cell? a = some v) (p : b_H w) : p.W.cell? a = some v:=(p.h.cell (World.block_lt_of_cell? w _ h)).trans h
set_option maxRecDepth 100000 in
set_option maxHeartbeats 4000000 in
theorem j_k (g : Nat) (lb : Array Value) (eg : ∀ args w,(callFunc g args).run Tryd.prog w = .ok (.enter g args) w) (cf : Int → Int → Int) (Pd : Int → Prop) (wb : World) (A : Option Addr) (c : Nat) (xs : List Int) (hl : xs.length ≤ 1000000) (w : World)
 (hR : Kd.R (Kd.int .i64) 3 w wb.heap.size (fun _ => True) (.slice A xs.length c) xs) (hB : Below wb.heap.size wb w) (hP : ∀ x ∈ xs,Pd x)
 (hcmp : ∀ W,Below wb.heap.size wb W → ∀ x y,Pd x → Pd y → Calls Tryd.prog g (#[.int .i64 x,.int .i64 y] ++ lb) W fun e W' => e = .returned (.int .i64 (cf x y)) ∧ Below W.heap.size W W') :
 Calls Tryd.prog 64 #[.slice A xs.length c,.int .i64 0,.int .i64 xs.length,.func (.func g) #[] lb] w fun e w' => e = .returned (.tuple #[]) ∧ Kd.R (Kd.int .i64) 3 w' wb.heap.size (fun _ => True) (.slice A xs.length c) (d_g cf (xs.length - 1) 1 xs) ∧ Below wb.heap.size wb w':=by
 have HR:=a_b.mk hR
 have HB:=a_b.mk hB
 have HP:=a_b.mk hP
 have HC:=a_b.mk hcmp
 clear hR hB hP hcmp
 have mixed : Tryd.prog.follows .mixedOrders = true:=by kernel_rfl
 go_enter Tryd.func64,Tryd.ntmps64
 go_wp2
 go_loopg [8] xs.length (fun g1 vi wr => ∃ (i : Nat) (dk : List Int),vi = .int .i64 i ∧ 1 ≤ i ∧ i ≤ xs.length + 1 ∧ xs.length + 1 - i ≤ g1 + 1 ∧ dk.length = xs.length ∧ a_b (Kd.R (Kd.int .i64) 3 wr wb.heap.size (fun _ => True) (.slice A xs.length c) dk) ∧ a_b (Below wb.heap.size wb wr) ∧ a_b (∀ x ∈ dk,Pd x) ∧ a_b (d_g cf (xs.length - i) i dk = d_g cf (xs.length - 1) 1 xs))
 case atStart => exact ⟨1,xs,by go_num,by omega,by omega,by omega,rfl,⟨HR.out⟩,⟨HB.out⟩,⟨HP.out⟩,⟨rfl⟩⟩
 case round =>
  clear HR HB HP
  obtain ⟨i,dk,rfl,hi1,hi2,hg1,hdl,HR,HB,HP,HE⟩:=hrel
  by_cases hlt : i < xs.length
  rotate_left
  ·have hltz : ¬ (i : Int) < (xs.length : Int):=by omega
   go_wp2
   go_end0
   refine ⟨rfl,?_,HB.out⟩
   have:=HE.out
   rw [show xs.length - i = 0 by omega] at this
   rw [← this]
   exact HR.out
  have hltz : (i : Int) < (xs.length : Int):=by omega
  have hE : d_g cf (xs.length - i) i dk = d_g cf (xs.length - (i + 1)) (i + 1) (f_o cf i dk):=by rw [show xs.length - i = (xs.length - (i + 1)) + 1 by omega,d_g]
  have HE2:=a_b.mk (hE.symm.trans HE.out)
  clear hE HE
  go_wp2
  go_loopg [9] i (fun g2 vj wr => ∃ (j : Nat) (dj : List Int),vj = .int .i64 j ∧ j ≤ i ∧ j ≤ g2 ∧ dj.length = xs.length ∧ a_b (Kd.R (Kd.int .i64) 3 wr wb.heap.size (fun _ => True) (.slice A xs.length c) dj) ∧ a_b (Below wb.heap.size wb wr) ∧ a_b (∀ x ∈ dj,Pd x) ∧ a_b (f_o cf j dj = f_o cf i dk))
  case atStart => exact ⟨i,dk,rfl,Nat.le_refl _,Nat.le_refl _,hdl,⟨HR.out⟩,⟨HB.out⟩,⟨HP.out⟩,⟨rfl⟩⟩
  case round =>
   clear HR HB HP
   obtain ⟨j,dj,rfl,hj1,hg2,hdl2,HR,HB,HP,HI⟩:=hrel
   by_cases hj0 : 0 < j
   rotate_left
   ·obtain rfl : j = 0:=by omega
    have hjaz : decide (((0 : Nat) : Int) > (0 : Int)) = false:=by decide
    go_wp2_with fail
    go_big_region_o
    have HR2:=a_b.mk (Kd.a_F HR.out)
    have HB2:=a_b.mk (c_J HB.out)
    generalize wr.drew = w3 at HR2 HB2 ⊢
    go_wp2
    go_roundg (xs.length - (i + 1))
    case measure => omega
    case rel => exact ⟨i + 1,dj,by go_num,by omega,by omega,by omega,hdl2,⟨HR2.out⟩,⟨HB2.out⟩,⟨HP.out⟩,⟨by rw [← HE2.out, ← HI.out];rfl⟩⟩
   obtain ⟨jp,hjp⟩ : ∃ q,q + 1 = j:=⟨j - 1,by omega⟩
   have zjp : (j : Int) = (jp : Int) + 1:=by omega
   obtain ⟨gd,cap,eA,hgb,hgl,cells,hcl⟩:=Kd.j_F HR.out (by omega)
   injection eA with e1 e2 e3
   subst e1
   clear e2 e3 hcl
   have hjad : decide ((jp : Int) + 1 > (0 : Int)) = true:=decide_eq_true (by omega)
   have hjaz' : (0 : Int) < (jp : Int) + 1:=by omega
   have pa : (0 : Int) ≤ (jp : Int) + 1:=by omega
   have ba : (jp : Int) + 1 < (xs.length : Int):=by omega
   have ra : IntKind.i64.wrap ((jp : Int) + 1) = (jp : Int) + 1:=by rw [IntKind.wrap_i64];omega
   have pc : (0 : Int) ≤ (jp : Int):=by omega
   have bc : (jp : Int) < (xs.length : Int):=by omega
   have rc : IntKind.i64.wrap ((jp : Int)) = (jp : Int):=by rw [IntKind.wrap_i64];omega
   obtain ⟨iN,hiN⟩ : ∃ q,q = j:=⟨_,rfl⟩
   obtain ⟨jN,hjN⟩ : ∃ q,q = jp:=⟨_,rfl⟩
   have ea : ((jp : Int) + 1).toNat = iN:=by omega
   have ec : ((jp : Int)).toNat = jN:=by omega
   obtain ⟨x1,hx1⟩ : ∃ x,x = rd dj (j : Int):=⟨_,rfl⟩
   obtain ⟨y1,hy1⟩ : ∃ x,x = rd dj (jp : Int):=⟨_,rfl⟩
   have c1:=Kd.e_P 0 HR.out (j : Int) (by omega) (by omega)
   have c0:=Kd.e_P 0 HR.out (jp : Int) (by omega) (by omega)
   rw [show rdOf 0 dj (j : Int) = x1 from hx1.symm,show ((j : Int)).toNat = iN by omega] at c1
   rw [show rdOf 0 dj (jp : Int) = y1 from hy1.symm,show ((jp : Int)).toNat = jN by omega] at c0
   have l1 : ∀ p : b_H wr,p.W.cell? ⟨gd,iN,none⟩ = some (.int .i64 x1):=b_H.cell c1.1
   have l0 : ∀ p : b_H wr,p.W.cell? ⟨gd,jN,none⟩ = some (.int .i64 y1):=b_H.cell c0.1
   have hPx : Pd x1:=by rw [hx1];exact HP.out _ (e_2 (by omega))
   have hPy : Pd y1:=by rw [hy1];exact HP.out _ (e_2 (by omega))
   have HCC:=a_b.mk (fun p : b_H wr => HC.out p.W (HB.out.trans (p.h.mono HB.out.size)) x1 y1 hPx hPy)
   clear hPx hPy
   have HX:=a_b.mk hx1
   have HY:=a_b.mk hy1
   have HIJ:=a_b.mk (And.intro hiN hjN)
   clear hx1 hy1 hiN hjN
   by_cases hv : cf x1 y1 < 0
   rotate_left
   ·have hd1 : decide (cf x1 y1 < 0) = false:=decide_eq_false hv
    go_wp2_with fail
    refine wp_region_quiet_below (by kernel_rfl) (by kernel_rfl) ?_
    repeat (quiet_step (first|(go_at_fn g;refine b_H.calls (HCC.out _))))
    refine wpQuiet_nil ?_
    rintro w2 ⟨p,hw⟩
    have hb2:=p.h
    rw [← hw] at hb2
    clear hw p
    have HR2:=a_b.mk (Kd.a_B HR.out hb2)
    have HB2:=a_b.mk (HB.out.trans (hb2.mono HB.out.size))
    have hI : f_o cf j dj = dj:=by rw [← hjp,f_o,if_neg];rw [hjp, ← HX.out, ← HY.out];omega
    have HI2:=a_b.mk hI
    clear hI l0 l1 c0 c1 hb2
    go_wp2
    go_roundg (xs.length - (i + 1))
    case measure => omega
    case rel => exact ⟨i + 1,dj,by go_num,by omega,by omega,by omega,hdl2,⟨HR2.out⟩,⟨HB2.out⟩,⟨HP.out⟩,⟨by rw [← HE2.out, ← HI.out,HI2.out]⟩⟩
   have hd1 : decide (cf x1 y1 < 0) = true:=decide_eq_true hv
   go_wp2_with fail
   refine wp_region_quiet_below (by kernel_rfl) (by kernel_rfl) ?_
   repeat (quiet_step (first|(go_at_fn g;refine b_H.calls (HCC.out _))))
   refine wpQuiet_nil ?_
   rintro w2 ⟨p,hw⟩
   have hb2:=p.h
   rw [← hw] at hb2
   clear hw p
   have HR2:=a_b.mk (Kd.a_B HR.out hb2)
   have HB2:=a_b.mk (HB.out.trans (hb2.mono HB.out.size))
   obtain ⟨rfl,rfl⟩:=HIJ.out
   have d1:=Kd.e_P 0 HR2.out (iN : Int) (by omega) (by omega)
   have d0:=Kd.e_P 0 HR2.out (jN : Int) (by omega) (by omega)
   rw [show rdOf 0 dj (iN : Int) = x1 from HX.out.symm,show ((iN : Int)).toNat = iN by omega] at d1
   rw [show rdOf 0 dj (jN : Int) = y1 from HY.out.symm,show ((jN : Int)).toNat = jN by omega] at d0
   obtain ⟨d1a,d1b⟩:=d1
   obtain ⟨d0a,d0b⟩:=d0
   have d2a : (w2.setCell ⟨gd,iN,none⟩ (.int .i64 y1)).cell? ⟨gd,jN,none⟩ = some (.int .i64 y1):=(World.cell?_setCell_other _ _ _ _ (by intro e';simp only [Addr.mk.injEq] at e';omega)).trans d0a
   have r1:=Kd.i_r HR2.out (iN : Int) y1
   have r2:=Kd.i_r r1 (jN : Int) x1
   rw [show ((iN : Int)).toNat = iN by omega,show ((jN : Int)).toNat = jN by omega] at r2
   have r3:=Kd.a_F r2
   have HR3:=a_b.mk r3
   have HB3:=a_b.mk (c_J ((HB2.out.setCell (p:=⟨gd,iN,none⟩) hgb (.int .i64 y1)).setCell (p:=⟨gd,jN,none⟩) hgb (.int .i64 x1)))
   clear r1 r2 r3 l0 l1 c0 c1 hb2 zjp
   have zjp : (iN : Int) = (jN : Int) + 1:=by omega
   go_wp2_with fail
   go_big_region_o
   clear d0a d1a d0b d1b d2a
   generalize ((w2.setCell ⟨gd,iN,none⟩ (.int .i64 y1)).setCell ⟨gd,jN,none⟩ (.int .i64 x1)).drew = w4 at HR3 HB3 ⊢
   go_wp2
   go_roundg jN
   case measure => omega
   case rel =>
    have hsw : (dj.set iN y1).set jN x1 = f_x dj jN:=by unfold f_x;rw [HX.out,HY.out, ← hjp]
    exact ⟨jN,f_x dj jN,by first|rfl|go_num,by omega,Nat.le_refl _,by rw [h_M];exact hdl2,⟨by rw [← hsw];exact HR3.out⟩,⟨HB3.out⟩,⟨h_L HP.out (by omega)⟩,⟨by rw [← HI.out, ← hjp,f_o,if_pos (by rw [hjp, ← HX.out, ← HY.out];exact hv)]⟩⟩
set_option maxRecDepth 100000 in
set_option maxHeartbeats 1000000 in
theorem g_D (g : Nat) (lb : Array Value) (eg : ∀ args w,(callFunc g args).run Tryd.prog w = .ok (.enter g args) w) (cf : Int → Int → Int) (Pd : Int → Prop) (wb : World) (A : Option Addr) (c : Nat) (xs : List Int) (hl : xs.length ≤ 19) (w : World)
 (hR : Kd.R (Kd.int .i64) 3 w wb.heap.size (fun _ => True) (.slice A xs.length c) xs) (hB : Below wb.heap.size wb w) (hP : ∀ x ∈ xs,Pd x)
 (hcmp : ∀ W,Below wb.heap.size wb W → ∀ x y,Pd x → Pd y → Calls Tryd.prog g (#[.int .i64 x,.int .i64 y] ++ lb) W fun e W' => e = .returned (.int .i64 (cf x y)) ∧ Below W.heap.size W W') :
 Calls Tryd.prog 56 #[.slice A xs.length c,.int .i64 xs.length,.func (.func g) #[] lb] w fun e w' => e = .returned (.tuple #[]) ∧ Kd.R (Kd.int .i64) 3 w' wb.heap.size (fun _ => True) (.slice A xs.length c) (d_g cf (xs.length - 1) 1 xs) ∧ Below wb.heap.size wb w':=by
 have HI:=a_b.mk (j_k g lb eg cf Pd wb A c xs (by omega) w hR hB hP hcmp)
 have h1 : ¬ (20 : Int) ≤ (xs.length : Int):=by omega
 have h2 : ¬ (20 : Int) < (xs.length : Int):=by omega
 clear hR hB hP hcmp
 go_enter Tryd.func56,Tryd.ntmps56
 go_wp2
 go_loopg [7,8] 0 (fun _ v7 v8 wr => v7 = .int .i64 0 ∧ v8 = .int .i64 20 ∧ wr = w)
 case atStart => exact ⟨rfl,rfl,rfl⟩
 case round =>
  obtain ⟨rfl,rfl,rfl⟩:=hrel
  go_wp2_with (go_at_call 64;refine HI.out.mono ?_;rintro e w' ⟨rfl,hr,hb⟩;have HR:=a_b.mk hr;have HB:=a_b.mk hb;clear hr hb)
  go_loopg [6,7,8] 0 (fun _ v6 v7 v8 w3 => v6 = .int .i64 20 ∧ v7 = .int .i64 0 ∧ v8 = .int .i64 20 ∧ w3 = w')
  case atStart => exact ⟨rfl,rfl,rfl,rfl⟩
  case round =>
   obtain ⟨rfl,rfl,rfl,rfl⟩:=hrel
   go_wp2
   go_end0
   exact ⟨rfl,HR.out,HB.out⟩
set_option maxHeartbeats 1000000 in
theorem e_w (g : Nat) (lb : Array Value) (eg : ∀ args w,(callFunc g args).run Tryd.prog w = .ok (.enter g args) w) (cf : Int → Int → Int) (Pd : Int → Prop) (wb : World) (A : Option Addr) (c : Nat) (xs : List Int) (hl : xs.length ≤ 19) (w : World)
 (hR : Kd.R (Kd.int .i64) 3 w wb.heap.size (fun _ => True) (.slice A xs.length c) xs) (hB : Below wb.heap.size wb w) (hP : ∀ x ∈ xs,Pd x)
 (hcmp : ∀ W,Below wb.heap.size wb W → ∀ x y,Pd x → Pd y → Calls Tryd.prog g (#[.int .i64 x,.int .i64 y] ++ lb) W fun e W' => e = .returned (.int .i64 (cf x y)) ∧ Below W.heap.size W W') :
 Calls Tryd.prog 43 #[.slice A xs.length c,.func (.func g) #[] lb] w fun e w' => e = .returned (.tuple #[]) ∧ Kd.R (Kd.int .i64) 3 w' wb.heap.size (fun _ => True) (.slice A xs.length c) (d_g cf (xs.length - 1) 1 xs) ∧ Below wb.heap.size wb w':=by
 have HI:=a_b.mk (g_D g lb eg cf Pd wb A c xs hl w hR hB hP hcmp)
 clear hR hB hP hcmp
 go_enter Tryd.func43,Tryd.ntmps43
 go_wp2_with (go_at_call 56;refine HI.out.mono ?_;rintro e w' ⟨rfl,hr,hb⟩)
 go_end0
 exact ⟨rfl,hr,hb⟩
def dN (xs : List S56) (a b : Int) : Int:=if a = b then 0 else if ((a_n xs a).f0 == (a_n xs b).f0 && ((a_n xs a).f1 == (a_n xs b).f1)) = true then 1 else if (a_n xs a).f0 = (a_n xs b).f0 then 2 else 3
theorem f_7 (xs : List S56) (a b : Int) : 0 ≤ dN xs a b ∧ dN xs a b ≤ 3:=by
 unfold dN
 split
 ·omega
 split
 ·omega
 split <;> omega
theorem i_u (xs : List S56) (a b : Int) (h0 : 0 ≤ a) (h1 : a < xs.length) (h2 : 0 ≤ b) (h3 : b < xs.length) : a_O.f 1 xs a b = some (dN xs a b):=by
 unfold a_O.f dN
 rw [if_pos h0,if_pos h1,if_pos h2,if_pos h3]
 by_cases e : a = b
 ·subst e
  rw [if_pos rfl,if_pos rfl,a_O.j0]
  simp
 by_cases f : (a_n xs a).f0 = (a_n xs b).f0
 ·rw [if_pos f,a_O.j0,if_neg e,if_neg e,if_neg e,if_pos f];split <;> rfl
 rw [if_neg f,a_O.j0,if_neg e,if_neg e,if_neg e,if_neg f];split <;> rfl
set_option maxHeartbeats 1000000 in
theorem f_Z (gt gc : Nat) (A : Option Addr) (c : Nat) (xs : List S56) (cpu a b : Int) (w : World) (hgt : w.heap[gt]? = some (.cells #[.slice A xs.length c] 24 (0,0))) (hgc : w.heap[gc]? = some (.cells #[.int .i64 cpu] 3 (0,0)))
 (hr : Kd.C k56 w A xs.length xs) (hc : xs.length ≤ c) (hu : 0 ≤ cpu ∧ cpu < xs.length) (ha : 0 ≤ a ∧ a < xs.length) (hb : 0 ≤ b ∧ b < xs.length) :
 Calls Tryd.prog 44 (#[.int .i64 a,.int .i64 b] ++ #[.pointer (some ⟨gt,0,none⟩),.pointer (some ⟨gc,0,none⟩)]) w fun e w' => e = .returned (.int .i64 (dN xs cpu a - dN xs cpu b)) ∧ Below w.heap.size w w':=by
 have l0 : ∀ p : b_H w,p.W.cell? ⟨gt,0,none⟩ = some (.slice A xs.length c):=b_H.cell ((a_h hgt 0).trans rfl)
 have l1 : ∀ p : b_H w,p.W.cell? ⟨gc,0,none⟩ = some (.int .i64 cpu):=b_H.cell ((a_h hgc 0).trans rfl)
 have D1:=a_b.mk (fun p : b_H w => a_O.calls 1 A c xs cpu a _ p.W (Kd.a_5 hr p.h) hc (i_u xs cpu a hu.1 hu.2 ha.1 ha.2))
 have D2:=a_b.mk (fun p : b_H w => a_O.calls 1 A c xs cpu b _ p.W (Kd.a_5 hr p.h) hc (i_u xs cpu b hu.1 hu.2 hb.1 hb.2))
 have r1:=f_7 xs cpu a
 have r2:=f_7 xs cpu b
 generalize dN xs cpu a = x at D1 r1 ⊢
 generalize dN xs cpu b = y at D2 r2 ⊢
 have hw : IntKind.i64.wrap (x - y) = x - y:=by rw [IntKind.wrap_i64];omega
 clear hgt hgc hr hu ha hb
 go_enter Tryd.func44,Tryd.ntmps44
 go_wp2_with fail
 refine wp_region_quiet_below (by kernel_rfl) (by kernel_rfl) ?_
 repeat (quiet_step (first|(go_at_call 40;with_reducible refine b_H.calls (D1.out _))|(go_at_call 40;with_reducible refine b_H.calls (D2.out _))))
 refine wpQuiet_nil ?_
 rintro w2 ⟨p,hw2⟩
 have hb2:=p.h
 rw [← hw2] at hb2
 clear hw2 p
 go_wp2
 go_ret
 exact ⟨rfl,hb2⟩
theorem f_9 (l : List Nat) : ∀ (m i : Nat),(l.foldl (fun m i => m ||| 2 ^ i) m).testBit i = (m.testBit i || decide (i ∈ l)):=by
 induction l with
 | nil => intro m i;simp
 | cons x l ih =>
  intro m i
  rw [List.foldl_cons,ih,Nat.testBit_or,Nat.testBit_two_pow]
  by_cases h : x = i
  ·subst h;simp
  have : (decide (i ∈ x :: l)) = decide (i ∈ l):=by rw [decide_eq_decide];simp;intro e;exact absurd e.symm h
  rw [this,decide_eq_false h,Bool.or_false]
theorem g_f {p : S56 → Bool} {xs : List S56} {i : Nat} (h : (setN p xs).testBit i = true) : i < xs.length ∧ p (a_n xs (i : Int)) = true:=by
 unfold setN at h
 split at h
 ·unfold maskN at h
  rw [f_9] at h
  simp only [Nat.zero_testBit,Bool.false_or,decide_eq_true_eq] at h
  refine ⟨f_w h,?_⟩
  unfold d_a at h
  exact (List.mem_filter.mp h).2
 simp at h
theorem j_o (p : S56 → Bool) (xs : List S56) : setN p xs < 256:=by
 apply Nat.lt_of_not_le
 intro h
 have h8 : setN p xs ≠ 0:=by omega
 obtain ⟨i,hi,hi'⟩:=Nat.exists_ge_and_testBit_of_ge_two_pow (show 2 ^ 8 ≤ setN p xs from h)
 have:=(g_f hi').1
 have hok : okT xs = true:=by
  unfold setN at hi'
  split at hi'
  ·assumption
  simp at hi'
 unfold okT at hok
 simp at hok
 omega
def e_0 (xs : List S56) (m : Nat) : List Int:=(d_n ((m &&& setN (fun _ => true) xs) &&& 255)).map fun x : Nat => (x : Int)
def j_Y (xs : List S56) (cpu : Int) (m : Nat) : List Int:=d_g (fun a b => dN xs cpu a - dN xs cpu b) ((e_0 xs m).length - 1) 1 (e_0 xs m)
def b_Q.f (l0 : List S56) (a1 a2 : Int) : Option (List Int × Int):=if l0.length ≤ 1000000 ∧ 0 ≤ a2 ∧ a2 < 4294967296 then some (if okT l0 = true then (if 0 ≤ a1 ∧ a1 < (l0.length : Int) then (if Go.bits .andNot .u32 a2 255 = 0 then (j_Y l0 a1 a2.toNat,0) else ([],140)) else ([],2)) else ([],160)) else none
theorem i_k {xs : List S56} {m : Nat} : ∀ x ∈ e_0 xs m,0 ≤ x ∧ x < (xs.length : Int):=by
 intro x hx
 unfold e_0 at hx
 obtain ⟨i,hi,rfl⟩:=List.mem_map.mp hx
 unfold d_n at hi
 have hb:=(List.mem_filter.mp hi).2
 rw [Nat.testBit_and,Nat.testBit_and] at hb
 simp only [Bool.and_eq_true] at hb
 have:=(g_f hb.1.2).1
 exact ⟨by omega,by omega⟩
theorem h_x (xs : List S56) (m : Nat) : (e_0 xs m).length ≤ 8:=by unfold e_0;rw [List.length_map];exact f_h _
theorem h_N (xs : List S56) (a : Int) : b_b.f xs a = some (decide (0 ≤ a ∧ a < (xs.length : Int))):=by
 unfold b_b.f
 by_cases h : a ≥ 0
 ·rw [if_pos h];congr 1;rw [decide_eq_decide];omega
 rw [if_neg h,decide_eq_false (by omega)]
set_option maxRecDepth 100000 in
set_option maxHeartbeats 4000000 in
theorem b_Q.calls (A : Option Addr) (c : Nat) (xs : List S56) (a1 a2 : Int) (r1 : List Int) (r2 : Int) (w : World) (hr : Kd.C k56 w A xs.length xs) (hc : xs.length ≤ c) (ht : c_g w) (h : b_Q.f xs a1 a2 = some (r1,r2)) :
 Calls Tryd.prog 20 #[.agg #[.slice A xs.length c],.int .i64 a1,.int .u32 a2] w fun e w' => ∃ v0_ : Value,e = .returned (.tuple #[v0_,.int .i64 r2]) ∧ Kd.R (Kd.int .i64) 3 w' w.heap.size (fun _ => True) v0_ r1 ∧ Below w.heap.size w w':=by
 unfold b_Q.f at h
 split at h
 case isFalse => cases h
 case isTrue hh =>
 obtain ⟨hl,h0,h32⟩:=hh
 obtain ⟨m,rfl⟩ : ∃ m : Nat,a2 = (m : Int):=⟨a2.toNat,by omega⟩
 have h:=Option.some.inj h
 rw [Int.toNat_natCast] at h
 have hB0:=a_f (a_f (Below.refl w.heap.size w) (.cells #[.slice A xs.length c] 24)) (.cells #[.int .i64 a1] 3)
 have bt0:=a_k (c_4 w (.cells #[.slice A xs.length c] 24)) (.cells #[.int .i64 a1] 3)
 have bc0:=c_4 (w.alloc (.cells #[.slice A xs.length c] 24)) (.cells #[.int .i64 a1] 3)
 rw [World.size_alloc] at bc0
 have HB0:=a_b.mk hB0
 have BT0:=a_b.mk bt0
 have BC0:=a_b.mk bc0
 have HR:=a_b.mk hr
 have HT:=a_b.mk ht
 have HK:=a_b.mk (c_Z xs)
 have HTH:=a_b.mk (h_N xs a1)
 clear hB0 bt0 bc0 hr ht h0
 cases hok : okT xs with
 | false =>
  rw [if_neg (by rw [hok];decide)] at h
  obtain ⟨rfl,rfl⟩:=Prod.mk.inj h
  have HOK:=a_b.mk hok
  clear h hok
  go_enter Tryd.func20,Tryd.ntmps20
  go_wp2_with (go_at_call 28;refine (b_l.calls _ _ xs _ _ (Kd.a_5 HR.out HB0.out) hc HK.out).mono ?_;rintro e w1 ⟨rfl,hb⟩;have HB1:=a_b.mk (HB0.out.trans (hb.mono HB0.out.size));clear hb;rw [HOK.out])
  go_ret2
  exact ⟨_,rfl,Kd.f_d _ _ _ _ _,HB1.out⟩
 | true =>
  rw [if_pos hok] at h
  have HOK:=a_b.mk hok
  clear hok
  by_cases hin : 0 ≤ a1 ∧ a1 < (xs.length : Int)
  rotate_left
  ·rw [if_neg hin] at h
   obtain ⟨rfl,rfl⟩:=Prod.mk.inj h
   have HIN:=a_b.mk hin
   clear h hin
   go_enter Tryd.func20,Tryd.ntmps20
   go_wp2_with (first
    | (go_at_call 28;refine (b_l.calls _ _ xs _ _ (Kd.a_5 HR.out HB0.out) hc HK.out).mono ?_;rintro e w1 ⟨rfl,hb⟩;have HB1:=a_b.mk (HB0.out.trans (hb.mono HB0.out.size));have t1:=(a_h (a_i BT0.out hb) 0).trans rfl;have u1:=(a_h (a_i BC0.out hb) 0).trans rfl;clear hb;rw [HOK.out])
    | (go_at_call 39;refine (b_b.calls _ _ xs _ _ _ (Kd.a_5 HR.out HB1.out) hc HTH.out).mono ?_;rintro e w2 ⟨rfl,hb⟩;have HB2:=a_b.mk (HB1.out.trans (hb.mono HB1.out.size));clear hb;rw [decide_eq_false HIN.out]))
   go_ret2
   exact ⟨_,rfl,Kd.f_d _ _ _ _ _,HB2.out⟩
  rw [if_pos hin] at h
  have HIN:=a_b.mk hin
  clear hin
  by_cases hm : Go.bits .andNot .u32 (m : Int) 255 = 0
  rotate_left
  ·rw [if_neg hm] at h
   obtain ⟨rfl,rfl⟩:=Prod.mk.inj h
   have HCC : a_b (b_Z.f (m : Int) = some 140):=⟨by unfold b_Z.f;rw [if_neg hm]⟩
   clear h hm
   go_enter Tryd.func20,Tryd.ntmps20
   go_wp2_with (first
    | (go_at_call 28;refine (b_l.calls _ _ xs _ _ (Kd.a_5 HR.out HB0.out) hc HK.out).mono ?_;rintro e w1 ⟨rfl,hb⟩;have HB1:=a_b.mk (HB0.out.trans (hb.mono HB0.out.size));have BT1:=a_b.mk (a_i BT0.out hb);have BC1:=a_b.mk (a_i BC0.out hb);have t1:=(a_h BT1.out 0).trans rfl;have u1:=(a_h BC1.out 0).trans rfl;clear hb;rw [HOK.out])
    | (go_at_call 39;refine (b_b.calls _ _ xs _ _ _ (Kd.a_5 HR.out HB1.out) hc HTH.out).mono ?_;rintro e w2 ⟨rfl,hb⟩;have HB2:=a_b.mk (HB1.out.trans (hb.mono HB1.out.size));have BT2:=a_b.mk (a_i BT1.out hb);have BC2:=a_b.mk (a_i BC1.out hb);have t2:=(a_h BT2.out 0).trans rfl;clear hb;rw [decide_eq_true HIN.out])
    | (go_at_call 41;refine (b_Z.calls _ _ _ HCC.out).mono ?_;rintro e w3 ⟨rfl,hd⟩;have hb:=hd.below;have HB3:=a_b.mk (HB2.out.trans (hb.mono HB2.out.size));have BT3:=a_b.mk (a_i BT2.out hb);have BC3:=a_b.mk (a_i BC2.out hb);have t3:=(a_h BT3.out 0).trans rfl;clear hb hd))
   go_ret2
   exact ⟨_,rfl,Kd.f_d _ _ _ _ _,HB3.out⟩
  rw [if_pos hm] at h
  obtain ⟨rfl,rfl⟩:=Prod.mk.inj h
  have HCC : a_b (b_Z.f (m : Int) = some 0):=⟨by unfold b_Z.f;rw [if_pos hm]⟩
  have HAL : a_b (c_A.f xs = some ((setN (fun _ => true) xs : Nat) : Int)):=⟨by unfold c_A.f b_0.f;rw [if_pos hl];rfl⟩
  have hM : m < 4294967296:=by omega
  have hS:=j_o (fun _ => true) xs
  have HE : bits .and .u32 (m : Int) ((setN (fun _ => true) xs : Nat) : Int) = ((m &&& setN (fun _ => true) xs : Nat) : Int):=bits_and_u32_nat m _ hM (by omega)
  have HLI : a_b (c_z.f ((m &&& setN (fun _ => true) xs : Nat) : Int) = some (e_0 xs m)):=⟨by
   have : m &&& setN (fun _ => true) xs ≤ m:=Nat.and_le_left
   unfold c_z.f e_0
   rw [if_pos (by omega),Int.toNat_natCast]⟩
  unfold j_Y
  clear h hm hS
  go_enter Tryd.func20,Tryd.ntmps20
  go_wp2_with (first
   | (go_at_call 28;refine (b_l.calls _ _ xs _ _ (Kd.a_5 HR.out HB0.out) hc HK.out).mono ?_;rintro e w1 ⟨rfl,hb⟩;have HB1:=a_b.mk (HB0.out.trans (hb.mono HB0.out.size));have BT1:=a_b.mk (a_i BT0.out hb);have BC1:=a_b.mk (a_i BC0.out hb);have t1:=(a_h BT1.out 0).trans rfl;have u1:=(a_h BC1.out 0).trans rfl;clear hb;rw [HOK.out])
   | (go_at_call 39;refine (b_b.calls _ _ xs _ _ _ (Kd.a_5 HR.out HB1.out) hc HTH.out).mono ?_;rintro e w2 ⟨rfl,hb⟩;have HB2:=a_b.mk (HB1.out.trans (hb.mono HB1.out.size));have BT2:=a_b.mk (a_i BT1.out hb);have BC2:=a_b.mk (a_i BC1.out hb);have t2:=(a_h BT2.out 0).trans rfl;clear hb;rw [decide_eq_true HIN.out])
   | (go_at_call 41;refine (b_Z.calls _ _ _ HCC.out).mono ?_;rintro e w3 ⟨rfl,hd⟩;have hb:=hd.below;have HB3:=a_b.mk (HB2.out.trans (hb.mono HB2.out.size));have BT3:=a_b.mk (a_i BT2.out hb);have BC3:=a_b.mk (a_i BC2.out hb);have t3:=(a_h BT3.out 0).trans rfl;clear hb hd)
   | (go_at_call 30;refine (c_A.calls _ _ xs _ _ (Kd.a_5 HR.out HB3.out) hc HAL.out).mono ?_;rintro e w4 ⟨rfl,hb⟩;have HB4:=a_b.mk (HB3.out.trans (hb.mono HB3.out.size));have BT4:=a_b.mk (a_i BT3.out hb);have BC4:=a_b.mk (a_i BC3.out hb);clear hb)
   | (simp only [HE])
   | (go_at_call 42;refine (c_z.calls _ _ _ (HT.out.below HB4.out) HLI.out).mono ?_;rintro e w5 ⟨v5,rfl,hR5,hb⟩;obtain ⟨A5,c5,rfl,hc5,_⟩:=Kd.d_3 hR5;have HR5:=a_b.mk hR5;have HB5:=a_b.mk hb;clear hR5 hb)
   | (go_at_call 43;refine (e_w 44 #[.pointer (some ⟨w.heap.size,0,none⟩),.pointer (some ⟨w.heap.size + 1,0,none⟩)] (d_o Tryd.func44 (by kernel_rfl) rfl) (fun a b => dN xs a1 a - dN xs a1 b) (fun x => 0 ≤ x ∧ x < (xs.length : Int)) w4 A5 c5 (e_0 xs m) (Nat.le_trans (h_x xs m) (by decide)) w5 HR5.out HB5.out i_k (fun W hW x y hx hy => f_Z _ _ A c xs a1 x y W (a_i BT4.out hW) (a_i BC4.out hW) (Kd.a_5 HR.out (HB4.out.trans (hW.mono HB4.out.size))) hc HIN.out hx hy)).mono ?_;rintro e w6 ⟨rfl,hR6,hb⟩;have HR6:=a_b.mk hR6;have HB6:=a_b.mk (HB4.out.trans (hb.mono HB4.out.size));clear hR6 hb))
  go_ret2
  exact ⟨_,rfl,Kd.b_v HR6.out HB4.out.size,HB6.out⟩
end
end Go.Proofs.YtcpfcehfgenljaaDoor.Q
end
section
namespace Go.Proofs.YtcpfcehfgenljaaDoor.Q
open Go.RowKit Go.Proofs.YtcpfcehfgenljaaDoorW.PrintWords Go.Proofs.YtcpfcehfgenljaaDoorW.PrintLast Go.Proofs.YtcpfcehfgenljaaDoorW.PrintMore
set_option linter.unusedVariables false
set_option linter.unusedSimpArgs false
mutual
def a_v.j0 : Nat → Int → Int → Int → Bool → Option ((List (S56)) × Int)
 | 0,_,_,_,_ => none
 | k + 1,x0,x1,x2,x35 => if x35 = true then (some (([] : List (S56)),2)) else (a_v.l0 k x1 x2 (wrap64 ((wrap64 (x0 * x1)) * x2)) 0 ([] : List (S56)))
def a_v.l0 : Nat → Int → Int → Int → Int → List (S56) → Option ((List (S56)) × Int)
 | 0,_,_,_,_,_ => none
 | k + 1,x1,x2,x41,x42,x121000 => if x42 < x41 then (if x2 = 0 then (none) else (if x1 = 0 then (none) else (if x121000.length < 8796093022208 then (a_v.l0 k x1 x2 x41 (wrap64 (x42 + 1)) (x121000 ++ [(⟨wrap64 (Int.tdiv (wrap64 (Int.tdiv x42 x2)) x1),Int.tmod (wrap64 (Int.tdiv x42 x2)) x1⟩ : S56)])) else (none)))) else (some (x121000,0))
end
def a_v.f (k : Nat) (a0 : Int) (a1 : Int) (a2 : Int) : Option ((List (S56)) × Int):=if a0 < 1 then (a_v.j0 k a0 a1 a2 true) else (if a0 > 4 then (a_v.j0 k a0 a1 a2 true) else (if a1 < 1 then (a_v.j0 k a0 a1 a2 true) else (if a1 > 8 then (a_v.j0 k a0 a1 a2 true) else (if a2 < 1 then (a_v.j0 k a0 a1 a2 true) else (if (wrap64 (a0 * a1)) = 0 then (none) else (a_v.j0 k a0 a1 a2 (decide (a2 > (wrap64 ((8 : Int) / (wrap64 (a0 * a1))))))))))))
theorem a_v.c_n : ∀ k,(∀ y0 y1 y2 y3,LeO (a_v.j0 k y0 y1 y2 y3) (a_v.j0 (k + 1) y0 y1 y2 y3)) ∧ (∀ y0 y1 y2 y3 y4,LeO (a_v.l0 k y0 y1 y2 y3 y4) (a_v.l0 (k + 1) y0 y1 y2 y3 y4))
 | 0 => ⟨fun _ _ _ _ r h => by simp [a_v.j0] at h,fun _ _ _ _ _ r h => by simp [a_v.l0] at h⟩
 | k + 1 => by
  obtain ⟨ih0,ih1⟩:=a_v.c_n k
  refine ⟨?_,?_⟩
  ·intro y0 y1 y2 y3
   unfold a_v.j0
   repeat' first
   | (with_reducible exact ih0 _ _ _ _)
   | (with_reducible exact ih1 _ _ _ _ _)
   | (with_reducible exact LeO.refl _)
   | (with_reducible exact LeO.none _)
   | (with_reducible refine LeO.ite ?_ ?_)
   | (with_reducible refine LeO.bind ?_ (fun _ => ?_))
   | exact ih0 _ _ _ _
   | exact ih1 _ _ _ _ _
   | exact LeO.none _
   | refine LeO.ite ?_ ?_
   | refine LeO.bind ?_ (fun _ => ?_)
  ·intro y0 y1 y2 y3 y4
   unfold a_v.l0
   repeat' first
   | (with_reducible exact ih0 _ _ _ _)
   | (with_reducible exact ih1 _ _ _ _ _)
   | (with_reducible exact LeO.refl _)
   | (with_reducible exact LeO.none _)
   | (with_reducible refine LeO.ite ?_ ?_)
   | (with_reducible refine LeO.bind ?_ (fun _ => ?_))
   | exact ih0 _ _ _ _
   | exact ih1 _ _ _ _ _
   | exact LeO.none _
   | refine LeO.ite ?_ ?_
   | refine LeO.bind ?_ (fun _ => ?_)
theorem a_v.mono : ∀ a0 a1 a2 k,LeO (a_v.f k a0 a1 a2) (a_v.f (k + 1) a0 a1 a2):=by
 intro a0 a1 a2 k
 obtain ⟨ih0,ih1⟩:=a_v.c_n k
 unfold a_v.f
 repeat' first
  | (with_reducible exact ih0 _ _ _ _)
  | (with_reducible exact ih1 _ _ _ _ _)
  | (with_reducible exact LeO.refl _)
  | (with_reducible exact LeO.none _)
  | (with_reducible refine LeO.ite ?_ ?_)
  | (with_reducible refine LeO.bind ?_ (fun _ => ?_))
  | exact ih0 _ _ _ _
  | exact ih1 _ _ _ _ _
  | exact LeO.none _
  | refine LeO.ite ?_ ?_
  | refine LeO.bind ?_ (fun _ => ?_)
def a_v.T7 : Bool × List (List Nat × List Nat):=(true,[([],[]),([0],[0]),([],[]),([],[]),([2,3],[2,3]),([],[]),([4,5],[4,5]),([],[]),([],[]),([7,8],[7,8]),([],[]),([9,10],[9,10]),([6,11],[6,11]),([12],[12]),([1,13],[1,13]),([0,1,2,3,4,5,6,7,8,9,10,11,12,13,14],[]),([15,14,14,0,1,2,3,4,5,6,7,8,9,10,11,12,13,14],[14,15])])
def a_v.B7 : List Nat:=[0,1,0,0,12,0,60,0,0,384,0,1920,4092,8188,16383,32767,65535]
theorem a_v.tab7 : rtab .any (opsOf Tryd.f26 7) = a_v.T7:=by kernel_rfl
theorem a_v.i_M : c_1 a_v.T7.2 a_v.B7 = true:=by kernel_rfl
set_option maxHeartbeats 8000000 in
set_option maxRecDepth 100000 in
theorem a_v.calls (k : Nat) (a0 : Int) (a1 : Int) (a2 : Int) (r1 : List (S56)) (r2 : Int) (w : World) (h : a_v.f k a0 a1 a2 = some (r1,r2)) :
 Calls Tryd.prog 26 #[.int .i64 a0,.int .i64 a1,.int .i64 a2] w fun e w' => ∃ v0_ : Value,e = .returned (.tuple #[.agg #[v0_],.int .i64 r2]) ∧ Kd.R k56 56 w' w.heap.size (fun _ => True) v0_ r1 ∧ Below w.heap.size w w':=by
 have hu24:=Tryd.underlying24
 have hu56:=Tryd.underlying56
 have HB:=a_b.mk (Below.refl w.heap.size w)
 have H : (if a0 < 1 then (a_v.j0 k a0 a1 a2 true) else (if a0 > 4 then (a_v.j0 k a0 a1 a2 true) else (if a1 < 1 then (a_v.j0 k a0 a1 a2 true) else (if a1 > 8 then (a_v.j0 k a0 a1 a2 true) else (if a2 < 1 then (a_v.j0 k a0 a1 a2 true) else (if (wrap64 (a0 * a1)) = 0 then (none) else (a_v.j0 k a0 a1 a2 (decide (a2 > (wrap64 ((8 : Int) / (wrap64 (a0 * a1))))))))))))) = some (r1,r2):=h
 clear h
 have HC4:=a_b.mk H
 clear H
 go_enter Tryd.func26,Tryd.ntmps26
 go_upto_region 2 with (first|((with_reducible refine a_L (N:=6) rfl ?_);refine a_G ?hg (N:=6) ?hd (cs:=#[.slice none 0 0]) (t:=24) ?hr ?_;(case hd => rfl);(case hg => rfl);(case hr => first|(go_simp;done)|(go_simp;rfl));intro d_T hg w5 hbox hb;have c_y:=a_b.mk (hbox);have l_4:=a_b.mk ((by rw [hg];exact (a_g (lup_ HB.out)) : w.heap.size ≤ d_T));have d_k:=a_b.mk ((by rw [hg];exact (a_g (lup_ HB.out)) : w.heap.size ≤ d_T));replace HB:=a_b.mk (a_m (lup_ HB.out) hb);clear hb hbox hg)|((with_reducible refine a_L (N:=8) rfl ?_);refine a_G ?hg (N:=8) ?hd (cs:=#[.slice none 0 0]) (t:=24) ?hr ?_;(case hd => rfl);(case hg => rfl);(case hr => first|(go_simp;done)|(go_simp;rfl));intro d_U hg w6 hbox hb;have c_B:=a_b.mk (hbox);have l_5:=a_b.mk ((by rw [hg];exact (a_g (by repeat (first|(with_reducible first|exact HB.out|apply a_f|apply a_c|apply a_e|refine a_d ?_ d_k.out)|exact HB.out))) : w.heap.size ≤ d_U));have d_S:=a_b.mk ((by rw [hg];exact (a_g (by repeat (first|(with_reducible first|exact HB.out|apply a_f|apply a_c|apply a_e|refine a_d ?_ d_k.out)|exact HB.out))) : w.heap.size ≤ d_U));have d_w:=a_b.mk ((by rw [hg];exact Nat.ne_of_lt (a_K (bup_ c_y.out)) : d_T ≠ d_U));have d_1:=a_b.mk ((by rw [hg];exact Nat.ne_of_gt (a_K (bup_ c_y.out)) : d_U ≠ d_T));replace c_y:=a_b.mk (a_i (bup_ c_y.out) hb);replace HB:=a_b.mk (a_m (by repeat (first|(with_reducible first|exact HB.out|apply a_f|apply a_c|apply a_e|refine a_d ?_ d_k.out)|exact HB.out)) hb);clear hb hbox hg))
 (try simp only [Act.put,sa_,sb_,sc_])
 go_cut [35] (fun v35 wc => ∃ (kq : Nat) (x35_3 : Bool),v35 = .bool x35_3 ∧ a_b (a_v.j0 kq a0 a1 a2 x35_3 = some (r1,r2)) ∧ a_b (kq ≤ k) ∧ a_b (wc.heap[d_T]? = some (.cells #[(.slice none 0 0)] 24 (0,0))) ∧ a_b (wc.heap[d_U]? = some (.cells #[(.slice none 0 0)] 24 (0,0))) ∧ a_b (Below w.heap.size w wc))
 case first =>
  have H:=HC4.out
  clear HC4
  by_cases c7 : a0 < 1
  ·rw [if_pos c7] at H
   have c7b0 : decide (a0 < 1) = true:=decide_eq_true c7
   clear c7
   (first|rw [c7b0]|(simp only [a_8,a_7];rw [c7b0])|skip)
   have H':=a_b.mk H
   clear H
   go_wp2
   go_meet
   case rel => exact ⟨_,(true),(by first|rfl|(simp;done)|(simp [*];done)|(simp [Int.tdiv_eq_ediv_of_nonneg (show (0 : Int) ≤ 8 by decide)];done)),H',⟨by first|omega|exact Nat.le_refl _⟩,⟨by (with_reducible repeat (first|refine a_l ?_ _|refine a_j ?_|refine a_k ?_ _));exact c_y.out⟩,⟨by (with_reducible repeat (first|refine a_l ?_ _|refine a_j ?_|refine a_k ?_ _));exact c_B.out⟩,⟨by repeat (first|(with_reducible first|exact HB.out|apply a_f|apply a_c|apply a_e|refine a_d ?_ d_k.out|refine a_d ?_ d_S.out)|exact HB.out)⟩⟩
  rw [if_neg c7] at H
  have c7b0 : decide (a0 < 1) = false:=decide_eq_false c7
  clear c7
  (first|rw [c7b0]|(simp only [a_8,a_7];rw [c7b0])|skip)
  by_cases c8 : a0 > 4
  ·rw [if_pos c8] at H
   have c8b0 : decide (4 < a0) = true:=decide_eq_true c8
   clear c8
   have H':=a_b.mk H
   clear H
   go_wp2
   go_meet
   case rel => exact ⟨_,(true),(by first|rfl|(simp;done)|(simp [*];done)|(simp [Int.tdiv_eq_ediv_of_nonneg (show (0 : Int) ≤ 8 by decide)];done)),H',⟨by first|omega|exact Nat.le_refl _⟩,⟨by (with_reducible repeat (first|refine a_l ?_ _|refine a_j ?_|refine a_k ?_ _));exact c_y.out⟩,⟨by (with_reducible repeat (first|refine a_l ?_ _|refine a_j ?_|refine a_k ?_ _));exact c_B.out⟩,⟨by repeat (first|(with_reducible first|exact HB.out|apply a_f|apply a_c|apply a_e|refine a_d ?_ d_k.out|refine a_d ?_ d_S.out)|exact HB.out)⟩⟩
  rw [if_neg c8] at H
  have c8b0 : decide (4 < a0) = false:=decide_eq_false c8
  clear c8
  by_cases c9 : a1 < 1
  ·rw [if_pos c9] at H
   have c9b0 : decide (a1 < 1) = true:=decide_eq_true c9
   clear c9
   have H':=a_b.mk H
   clear H
   go_wp2
   go_meet
   case rel => exact ⟨_,(true),(by first|rfl|(simp;done)|(simp [*];done)|(simp [Int.tdiv_eq_ediv_of_nonneg (show (0 : Int) ≤ 8 by decide)];done)),H',⟨by first|omega|exact Nat.le_refl _⟩,⟨by (with_reducible repeat (first|refine a_l ?_ _|refine a_j ?_|refine a_k ?_ _));exact c_y.out⟩,⟨by (with_reducible repeat (first|refine a_l ?_ _|refine a_j ?_|refine a_k ?_ _));exact c_B.out⟩,⟨by repeat (first|(with_reducible first|exact HB.out|apply a_f|apply a_c|apply a_e|refine a_d ?_ d_k.out|refine a_d ?_ d_S.out)|exact HB.out)⟩⟩
  rw [if_neg c9] at H
  have c9b0 : decide (a1 < 1) = false:=decide_eq_false c9
  clear c9
  by_cases c10 : a1 > 8
  ·rw [if_pos c10] at H
   have c10b0 : decide (8 < a1) = true:=decide_eq_true c10
   clear c10
   have H':=a_b.mk H
   clear H
   go_wp2
   go_meet
   case rel => exact ⟨_,(true),(by first|rfl|(simp;done)|(simp [*];done)|(simp [Int.tdiv_eq_ediv_of_nonneg (show (0 : Int) ≤ 8 by decide)];done)),H',⟨by first|omega|exact Nat.le_refl _⟩,⟨by (with_reducible repeat (first|refine a_l ?_ _|refine a_j ?_|refine a_k ?_ _));exact c_y.out⟩,⟨by (with_reducible repeat (first|refine a_l ?_ _|refine a_j ?_|refine a_k ?_ _));exact c_B.out⟩,⟨by repeat (first|(with_reducible first|exact HB.out|apply a_f|apply a_c|apply a_e|refine a_d ?_ d_k.out|refine a_d ?_ d_S.out)|exact HB.out)⟩⟩
  rw [if_neg c10] at H
  have c10b0 : decide (8 < a1) = false:=decide_eq_false c10
  clear c10
  by_cases c11 : a2 < 1
  ·rw [if_pos c11] at H
   have c11b0 : decide (a2 < 1) = true:=decide_eq_true c11
   clear c11
   have H':=a_b.mk H
   clear H
   go_wp2
   go_meet
   case rel => exact ⟨_,(true),(by first|rfl|(simp;done)|(simp [*];done)|(simp [Int.tdiv_eq_ediv_of_nonneg (show (0 : Int) ≤ 8 by decide)];done)),H',⟨by first|omega|exact Nat.le_refl _⟩,⟨by (with_reducible repeat (first|refine a_l ?_ _|refine a_j ?_|refine a_k ?_ _));exact c_y.out⟩,⟨by (with_reducible repeat (first|refine a_l ?_ _|refine a_j ?_|refine a_k ?_ _));exact c_B.out⟩,⟨by repeat (first|(with_reducible first|exact HB.out|apply a_f|apply a_c|apply a_e|refine a_d ?_ d_k.out|refine a_d ?_ d_S.out)|exact HB.out)⟩⟩
  rw [if_neg c11] at H
  have c11b0 : decide (a2 < 1) = false:=decide_eq_false c11
  clear c11
  by_cases c12 : (wrap64 (a0 * a1)) = 0
  ·rw [if_pos c12] at H
   exact absurd H (by simp)
  rw [if_neg c12] at H
  have c12b0 : ((wrap64 (a0 * a1)) == 0) = false:=beq_eq_false_iff_ne.mpr c12
  have c12b1 : ((wrap64 (a0 * a1)) != 0) = true:=bne_iff_ne.mpr c12
  have H':=a_b.mk H
  clear H
  go_wp2
  go_meet
  case rel => exact ⟨_,(decide (a2 > (wrap64 ((8 : Int) / (wrap64 (a0 * a1)))))),(by first|rfl|(simp;done)|(simp [*];done)|(simp [Int.tdiv_eq_ediv_of_nonneg (show (0 : Int) ≤ 8 by decide)];done)),H',⟨by first|omega|exact Nat.le_refl _⟩,⟨by (with_reducible repeat (first|refine a_l ?_ _|refine a_j ?_|refine a_k ?_ _));exact c_y.out⟩,⟨by (with_reducible repeat (first|refine a_l ?_ _|refine a_j ?_|refine a_k ?_ _));exact c_B.out⟩,⟨by repeat (first|(with_reducible first|exact HB.out|apply a_f|apply a_c|apply a_e|refine a_d ?_ d_k.out|refine a_d ?_ d_S.out)|exact HB.out)⟩⟩
 case rest =>
  clear HC4
  try clear c1
  try clear c2
  try clear p2
  try clear p6
  try clear c7
  try clear c7b0
  try clear c8
  try clear c8b0
  try clear c9
  try clear c9b0
  try clear c10
  try clear c10b0
  try clear c11
  try clear c11b0
  try clear c12
  try clear c12b0
  try clear c12b1
  obtain ⟨kq,x35_3,rfl,HA,HJ3,c_y,c_B,HB⟩:=hcut
  cases kq with
  | zero => exact absurd HA.out (by simp [a_v.j0])
  | succ kj3 =>
   have H:=HA.out
   clear HA
   simp only [a_v.j0] at H
   by_cases c13 : x35_3 = true
   ·subst c13
    have H1 : (some (([] : List (S56)),2)) = some (r1,r2):=by rw [if_pos rfl] at H;exact H
    clear H
    have H:=H1
    clear H1
    simp only [Option.some.injEq,Prod.mk.injEq] at H
    obtain ⟨rfl,rfl⟩:=H
    have l_q:=d_1.out
    have l_w:=d_w.out
    have e_W : wc.cell? ⟨d_U,0,none⟩ = some (.slice none 0 0):=(a_h c_B.out 0).trans rfl
    have e_Y:=a_p c_B.out 0
    have f_J : wc.cell? ⟨d_T,0,none⟩ = some (.slice none 0 0):=(a_h c_y.out 0).trans rfl
    have f_R:=a_p c_y.out 0
    go_wp2
    refine bodyPost_ret (e_H rfl _ _ d_T 24 #[.slice none 0 0] (0,0) _ rfl (by (with_reducible repeat (first|refine a_l ?_ _|refine a_j ?_|refine a_k ?_ _));refine b_p (cs:=#[.slice none 0 0]) ?_ 0 _ rfl;(with_reducible repeat (first|refine a_l ?_ _|refine a_j ?_|refine a_k ?_ _));exact c_y.out) Tryd.underlying24 rfl (by kernel_rfl)) rfl ?_
    exact ⟨_,by first|rfl|(simp [a_r,a_s] <;> rfl)|(simp [*, a_r,a_s] <;> rfl),by first|exact Kd.f_d _ _ _ _ _|exact Kd.j_B _ _ _ _ _|exact Kd.j_H _ _ _ _ _|exact Kd.j_C _ _ _ _ _|exact Kd.j_G _ _ _ _ _,by repeat (first|(with_reducible first|exact HB.out|apply a_f|apply a_c|apply a_e|refine a_d ?_ d_k.out|refine a_d ?_ d_S.out)|exact HB.out)⟩
   replace c13:=Bool.eq_false_iff.mpr c13
   subst c13
   have H1 : (a_v.l0 kj3 a1 a2 (wrap64 ((wrap64 (a0 * a1)) * a2)) 0 ([] : List (S56))) = some (r1,r2):=by rw [if_neg (show ¬ (false = true) by decide)] at H;exact H
   clear H
   have H:=H1
   clear H1
   have H':=a_b.mk H
   clear H
   go_wp2
   go_loopg [42] kj3 (fun kq v42 w' => ∃ (x42_2 : Int) (x121000_2 : List (S56)) (u121000 : Value),v42 = .int .i64 x42_2 ∧ a_b (a_v.l0 kq a1 a2 (wrap64 ((wrap64 (a0 * a1)) * a2)) x42_2 x121000_2 = some (r1,r2)) ∧ a_b (kq ≤ kj3) ∧ a_b (Kd.R k56 56 w' w.heap.size (fun _ => True) u121000 x121000_2) ∧ a_b (w'.heap[d_T]? = some (.cells #[(.slice none 0 0)] 24 (0,0))) ∧ a_b (w'.heap[d_U]? = some (.cells #[u121000] 24 (0,0))) ∧ a_b (Below w.heap.size w w'))
   case atStart => exact ⟨(0),(([] : List (S56))),(.slice none 0 0),(by first|rfl|(simp;done)|(simp [*];done)|(simp [Int.tdiv_eq_ediv_of_nonneg (show (0 : Int) ≤ 8 by decide)];done)),H',⟨Nat.le_refl _⟩,⟨by first|exact Kd.f_d _ _ _ _ _|exact Kd.j_B _ _ _ _ _|exact Kd.j_H _ _ _ _ _|exact Kd.j_C _ _ _ _ _|exact Kd.j_G _ _ _ _ _⟩,⟨by (with_reducible repeat (first|refine a_l ?_ _|refine a_j ?_|refine a_k ?_ _));exact c_y.out⟩,⟨by (with_reducible repeat (first|refine a_l ?_ _|refine a_j ?_|refine a_k ?_ _));exact c_B.out⟩,⟨by repeat (first|(with_reducible first|exact HB.out|apply a_f|apply a_c|apply a_e|refine a_d ?_ d_k.out|refine a_d ?_ d_S.out)|exact HB.out)⟩⟩
   case round =>
    clear H'
    try clear c1
    try clear c2
    try clear p2
    try clear p6
    try clear c7
    try clear c7b0
    try clear c8
    try clear c8b0
    try clear c9
    try clear c9b0
    try clear c10
    try clear c10b0
    try clear c11
    try clear c11b0
    try clear c12
    try clear c12b0
    try clear c12b1
    try clear c13
    try clear c14
    try clear e_W
    try clear f_J
    try clear e_Y
    try clear f_R
    try clear p2
    try clear p6
    obtain ⟨x42_2,x121000_2,u121000,rfl,HA,HK2,c_q,c_y,c_B,HB⟩:=hrel
    cases gk with
    | zero => exact absurd HA.out (by simp [a_v.l0])
    | succ k2 =>
     have H:=HA.out
     clear HA
     simp only [a_v.l0] at H
     by_cases c17 : x42_2 < (wrap64 ((wrap64 (a0 * a1)) * a2))
     rotate_left
     ·rw [if_neg c17] at H
      have c17b0 : decide (x42_2 < (wrap64 ((wrap64 (a0 * a1)) * a2))) = false:=decide_eq_false c17
      clear c17
      simp only [Option.some.injEq,Prod.mk.injEq] at H
      obtain ⟨rfl,rfl⟩:=H
      have m_k:=d_1.out
      have m_H:=d_w.out
      have k_G : wr.cell? ⟨d_U,0,none⟩ = some (u121000):=(a_h c_B.out 0).trans rfl
      have k_5:=a_p c_B.out 0
      obtain ⟨Ao27,co27,eo27⟩:=Kd.b_5 c_q.out
      subst eo27
      have f_M : wr.cell? ⟨d_T,0,none⟩ = some (.slice none 0 0):=(a_h c_y.out 0).trans rfl
      have f_U:=a_p c_y.out 0
      go_wp2
      refine bodyPost_ret (e_H rfl _ _ d_T 24 #[.slice Ao27 x121000_2.length co27] (0,0) _ rfl (by (with_reducible repeat (first|refine a_l ?_ _|refine a_j ?_|refine a_k ?_ _));refine b_p (cs:=#[.slice none 0 0]) ?_ 0 _ rfl;(with_reducible repeat (first|refine a_l ?_ _|refine a_j ?_|refine a_k ?_ _));exact c_y.out) Tryd.underlying24 rfl (by kernel_rfl)) rfl ?_
      exact ⟨_,by first|rfl|(simp [a_r,a_s] <;> rfl)|(simp [*, a_r,a_s] <;> rfl),by (with_reducible repeat (first|apply Kd.a_I|apply Kd.a_J|apply Kd.a_F));exact Kd.a_X (Kd.b_9 (p:=⟨d_T,0,none⟩) (Kd.b_I c_q.out c_y.out (by decide)) (fun _ hk => hk.2) (.slice Ao27 x121000_2.length co27)) (fun _ hk => trivial),by repeat (first|(with_reducible first|exact HB.out|apply a_f|apply a_c|apply a_e|refine a_d ?_ d_k.out|refine a_d ?_ d_S.out)|exact HB.out)⟩
     rw [if_pos c17] at H
     have c17b0 : decide (x42_2 < (wrap64 ((wrap64 (a0 * a1)) * a2))) = true:=decide_eq_true c17
     clear c17
     by_cases c18 : a2 = 0
     ·rw [if_pos c18] at H
      exact absurd H (by simp)
     rw [if_neg c18] at H
     have c18b0 : (a2 == 0) = false:=beq_eq_false_iff_ne.mpr c18
     have c18b1 : (a2 != 0) = true:=bne_iff_ne.mpr c18
     by_cases c19 : a1 = 0
     ·rw [if_pos c19] at H
      exact absurd H (by simp)
     rw [if_neg c19] at H
     have c19b0 : (a1 == 0) = false:=beq_eq_false_iff_ne.mpr c19
     have c19b1 : (a1 != 0) = true:=bne_iff_ne.mpr c19
     by_cases c20 : x121000_2.length < 8796093022208
     rotate_left
     ·rw [if_neg c20] at H
      exact absurd H (by simp)
     rw [if_pos c20] at H
     have LMc20:=a_b.mk c20
     clear c20
     obtain ⟨y121,hy121⟩ : ∃ y_ : List (S56),y_ = (x121000_2 ++ [(⟨wrap64 (Int.tdiv (wrap64 (Int.tdiv x42_2 a2)) a1),Int.tmod (wrap64 (Int.tdiv x42_2 a2)) a1⟩ : S56)]):=⟨_,rfl⟩
     replace H : (a_v.l0 k2 a1 a2 (wrap64 ((wrap64 (a0 * a1)) * a2)) (wrap64 (x42_2 + 1)) y121) = some (r1,r2):=by first|(rw [hy121];with_reducible exact H)|(have H2_:=(Option.bind_some _ _).symm.trans H;rw [hy121];with_reducible exact H2_)|(have H2_:=(Option.bind_some _ _).symm.trans H;with_reducible exact H2_)|with_reducible exact H|(rw [hy121];exact H)|exact H
     have Ny121:=a_b.mk hy121
     clear hy121
     have H':=a_b.mk H
     clear H
     try go_wp2
     replace c_q:=a_b.mk (Kd.a_F c_q.out)
     replace c_y:=a_b.mk (a_j c_y.out)
     replace c_B:=a_b.mk (a_j c_B.out)
     replace HB:=a_b.mk (a_e HB.out)
     refine c_D (n:=17) (S:=fun w' => w'.cell? ⟨d_U,0,none⟩ = some (u121000)) (ds:=[16]) #[F_,F_,F_,F_,F_,F_,F_,F_,F_,F_,F_,F_,F_,F_,F_,F_,F_] (by kernel_rfl) rfl rfl ((a_h c_B.out 0).trans rfl) (fun hHeld => ?_);refine b_G a_v.tab7 a_v.i_M (fun HT_ HW_ => ?_)
     generalize wr.drew = w21 at c_q c_y c_B HB hHeld ⊢
     refine pt_ 0 (some 45) #[T_,F_,F_,F_,F_,F_,F_,F_,F_,F_,F_,F_,F_,F_,F_,F_,F_] HT_ ?_
     refine pt_ 2 (some 47) #[T_,F_,T_,F_,F_,F_,F_,F_,F_,F_,F_,F_,F_,F_,F_,F_,F_] HT_ ?_
     refine pt_ 3 (some 48) #[T_,F_,T_,T_,F_,F_,F_,F_,F_,F_,F_,F_,F_,F_,F_,F_,F_] HT_ ?_
     refine pt_ 4 (some 49) #[T_,F_,T_,T_,T_,F_,F_,F_,F_,F_,F_,F_,F_,F_,F_,F_,F_] HT_ ?_
     refine pt_ 5 (some 50) #[T_,F_,T_,T_,T_,T_,F_,F_,F_,F_,F_,F_,F_,F_,F_,F_,F_] HT_ ?_
     refine pt_ 6 (some 51) #[T_,F_,T_,T_,T_,T_,T_,F_,F_,F_,F_,F_,F_,F_,F_,F_,F_] HT_ ?_
     refine pt_ 7 (some 52) #[T_,F_,T_,T_,T_,T_,T_,T_,F_,F_,F_,F_,F_,F_,F_,F_,F_] HT_ ?_
     refine pt_ 8 (some 53) #[T_,F_,T_,T_,T_,T_,T_,T_,T_,F_,F_,F_,F_,F_,F_,F_,F_] HT_ ?_
     refine pt_ 9 (some 54) #[T_,F_,T_,T_,T_,T_,T_,T_,T_,T_,F_,F_,F_,F_,F_,F_,F_] HT_ ?_
     refine pt_ 10 (some 55) #[T_,F_,T_,T_,T_,T_,T_,T_,T_,T_,T_,F_,F_,F_,F_,F_,F_] HT_ ?_
     refine pt_ 11 (some 56) #[T_,F_,T_,T_,T_,T_,T_,T_,T_,T_,T_,T_,F_,F_,F_,F_,F_] HT_ ?_
     refine pt_ 12 (some 57) #[T_,F_,T_,T_,T_,T_,T_,T_,T_,T_,T_,T_,T_,F_,F_,F_,F_] HT_ ?_
     refine b_L (i:=1) (N:=some 46) (v:=?_) (a':=?_) #[T_,T_,T_,T_,T_,T_,T_,T_,T_,T_,T_,T_,T_,F_,F_,F_,F_] rfl rfl (a_1 HT_.out HW_.out (by kernel_rfl)) (fun _ _ _ h => h) (Or.inl ⟨by rfl,?_⟩) hHeld ?_ ?_
     rotate_left
     ·intro w' s0
      go_simp
      with_reducible rfl
     rotate_left
     ·simp only [Act.put,sa_,sb_,sc_,a_8,a_7]
      rfl
     refine one_ (i:=13) (N:=some 58) #[T_,T_,T_,T_,T_,T_,T_,T_,T_,T_,T_,T_,T_,T_,F_,F_,F_] rfl rfl (b_K HT_.out (by kernel_rfl)) (by decide) (fun K hK => ?_)
     refine j_5 (w1:=?_) (v:=?_) (by rfl) rfl ?_ ?_
     rotate_left 2
     ·go_simp
      constructor
      ·rfl
      rfl
     refine hK.out _ _ ((a_h (a_k c_B.out _) 0).trans rfl) (fun hHeld => ?_)
     clear hK K
     refine b_i (a':=?_) ?_ ?_
     rotate_left
     ·show Act.put _ (some 58) _ = _
      simp only [Act.put,sa_,sb_,sc_,a_8,a_7]
      rfl
     refine one_ (i:=14) (N:=some 59) #[T_,T_,T_,T_,T_,T_,T_,T_,T_,T_,T_,T_,T_,T_,T_,F_,F_] rfl rfl (b_K HT_.out (by kernel_rfl)) (by decide) (fun K hK => ?_)
     refine Kd.e_O k56 (w0:=w) w.heap.size (by rfl) (.tmp 46) (.tmp 58) 22 56 (.agg #[(.int .i64 0),(.int .i64 0)]) 16 rfl Tryd.underlying22 h_v rfl (by decide) (by omega) u121000 x121000_2 (⟨wrap64 (Int.tdiv (wrap64 (Int.tdiv x42_2 a2)) a1),Int.tmod (wrap64 (Int.tdiv x42_2 a2)) a1⟩ : S56) [.int .i64 (wrap64 (Int.tdiv (wrap64 (Int.tdiv x42_2 a2)) a1)),.int .i64 (Int.tmod (wrap64 (Int.tdiv x42_2 a2)) a1)] (fun _ => True) (fun _ => False) rfl rfl ?aP (fun _ hk => hk.elim) ?aF ?aO ?aB ?aS ?aL ?_
     (case aP => exact j_l _ _ _ (⟨wrap64 (Int.tdiv (wrap64 (Int.tdiv x42_2 a2)) a1),Int.tmod (wrap64 (Int.tdiv x42_2 a2)) a1⟩ : S56))
     (case aB => exact (by repeat (first|(with_reducible first|exact HB.out|apply a_f|apply a_c|apply a_e|refine a_d ?_ d_k.out|refine a_d ?_ d_S.out)|exact HB.out)))
     (case aF => exact (fun _ _ => trivial))
     (case aO => exact (rup_ c_q.out))
     (case aS => exact (a_g (by repeat (first|(with_reducible first|exact HB.out|apply a_f|apply a_c|apply a_e|refine a_d ?_ d_k.out|refine a_d ?_ d_S.out)|exact HB.out))))
     (case aL => have:=LMc20.out;omega)
     intro v122 w22 ho hb hg hat
     rw [← Ny121.out] at ho
     have j_y:=a_b.mk (ho)
     replace c_y:=a_b.mk (d_x (g:=d_T) (o:=.cells #[.slice none 0 0] 24 (0,0)) (bup_ c_y.out) hg (Kd.R_ne c_q.out c_y.out (by decide)))
     replace c_B:=a_b.mk (d_x (g:=d_U) (o:=.cells #[u121000] 24 (0,0)) (bup_ c_B.out) hg (Kd.R_ne c_q.out c_B.out (by decide)))
     replace HB:=a_b.mk (hb)
     clear c_q ho hb hg hat
     obtain ⟨Ao23,co23,eo23⟩:=Kd.b_5 j_y.out
     (first|subst eo23|(injection eo23 with f1_ f2_ f3_;have f4_:=f1_.symm;have f5_:=f3_.symm;clear f1_ f2_ f3_;subst f4_;subst f5_))
     refine hK.out _ _ ((a_h c_B.out 0).trans rfl) (fun hHeld => ?_)
     clear hK K
     refine b_i (a':=?_) ?_ ?_
     rotate_left
     ·show Act.put _ (some 59) _ = _
      simp only [Act.put,sa_,sb_,sc_,a_8,a_7]
      rfl
     refine pt_ 15 (some 60) #[T_,T_,T_,T_,T_,T_,T_,T_,T_,T_,T_,T_,T_,T_,T_,T_,F_] HT_ ?_
     refine l_B (i:=16) (N:=none) #[T_,T_,T_,T_,T_,T_,T_,T_,T_,T_,T_,T_,T_,T_,T_,T_,T_] rfl rfl (b_K HT_.out (by kernel_rfl)) (by decide) (fun K hK => ?_)
     have hs24 : w22.cell? ⟨d_U,0,none⟩ = some (u121000):=(a_h c_B.out 0).trans rfl
     have hfs24:=a_p c_B.out 0
     have hns24_0:=d_w.out
     have hms24_0:=d_1.out
     refine h_J (w1:=?_) (by rfl) rfl ?_ ?_
     rotate_left
     ·go_simp
      rfl
     refine hK.out _ _ ?_
     clear hK K
     refine c_5 (c_i HT_.out (by kernel_rfl)) ?_
     try go_wp2
     go_roundg k2
     case measure => have:=HJ3.out;have:=HK2.out;omega
     case rel => exact ⟨(wrap64 (x42_2 + 1)),(y121),(.slice Ao23 y121.length co23),(by first|rfl|(simp;done)|(simp [*];done)|(simp [Int.tdiv_eq_ediv_of_nonneg (show (0 : Int) ≤ 8 by decide)];done)),H',⟨by have:=HJ3.out;have:=HK2.out;omega⟩,⟨by (with_reducible repeat (first|apply Kd.a_I|apply Kd.a_J|apply Kd.a_F));exact Kd.a_X (Kd.b_9 (p:=⟨d_U,0,none⟩) (Kd.b_I j_y.out c_B.out (by decide)) (fun _ hk => hk.2) (.slice Ao23 y121.length co23)) (fun _ hk => trivial)⟩,⟨by (with_reducible repeat (first|refine a_l ?_ _|refine a_j ?_|refine a_k ?_ _));refine b_m ?_ d_w.out _;(with_reducible repeat (first|refine a_l ?_ _|refine a_j ?_|refine a_k ?_ _));exact c_y.out⟩,⟨by (with_reducible repeat (first|refine a_l ?_ _|refine a_j ?_|refine a_k ?_ _));refine b_p (cs:=#[u121000]) ?_ 0 _ rfl;(with_reducible repeat (first|refine a_l ?_ _|refine a_j ?_|refine a_k ?_ _));exact c_B.out⟩,⟨by repeat (first|(with_reducible first|exact HB.out|apply a_f|apply a_c|apply a_e|refine a_d ?_ d_k.out|refine a_d ?_ d_S.out)|exact HB.out)⟩⟩
end Go.Proofs.YtcpfcehfgenljaaDoor.Q
end
section
namespace Go.Proofs.YtcpfcehfgenljaaDoor.Q
open Go.RowKit Go.Proofs.YtcpfcehfgenljaaDoorW.PrintWords Go.Proofs.YtcpfcehfgenljaaDoorW.PrintLast Go.Proofs.YtcpfcehfgenljaaDoorW.PrintMore
set_option linter.unusedVariables false
set_option linter.unusedSimpArgs false
def b_u.f (l0_0 : List (S56)) (a1 : Int) : Option (Int):=(b_M.f l0_0 a1).bind fun t126 => (some t126)
set_option maxHeartbeats 8000000 in
set_option maxRecDepth 100000 in
theorem b_u.calls (A0_0 : Option Addr) (c0_0 : Nat) (l0_0 : List (S56)) (a1 : Int) (r : Int) (w : World) (hr0_0 : Kd.C k56 w A0_0 l0_0.length l0_0) (hc0_0 : l0_0.length ≤ c0_0) (h : b_u.f l0_0 a1 = some r) :
 Calls Tryd.prog 29 #[.agg #[.slice A0_0 l0_0.length c0_0],.int .i64 a1] w fun e w' => e = .returned (.int .u32 r) ∧ Below w.heap.size w w':=by
 have hu24:=Tryd.underlying24
 have b_V:=a_b.mk hr0_0
 have c_l:=a_b.mk hc0_0
 clear hr0_0 hc0_0
 have HB:=a_b.mk (Below.refl w.heap.size w)
 have H : ((b_M.f l0_0 a1).bind fun t126 => (some t126)) = some r:=h
 clear h
 replace H:=Option.bind_eq_some_iff.mp H
 obtain ⟨t126,A30,H⟩:=H
 replace H : (some t126) = some r:=H
 have A3:=a_b.mk A30
 clear A30
 obtain rfl:=Option.some.inj H
 go_enter Tryd.func29,Tryd.ntmps29
 go_wp2_with (first|((with_reducible refine a_L (N:=2) rfl ?_);refine a_G ?hg (N:=2) ?hd (cs:=#[.slice A0_0 l0_0.length c0_0]) (t:=24) ?hr ?_;(case hd => rfl);(case hg => rfl);(case hr => first|(go_simp;done)|(go_simp;rfl));intro g_8 hg w4 hbox hb;have e_7:=a_b.mk (hbox);have l_6:=a_b.mk ((by rw [hg];exact (a_g (lup_ HB.out)) : w.heap.size ≤ g_8));have g_H:=a_b.mk ((by rw [hg];exact (a_g (lup_ HB.out)) : w.heap.size ≤ g_8));replace HB:=a_b.mk (a_m (lup_ HB.out) hb);clear hb hbox hg)|((with_reducible refine a_L (N:=3) rfl ?_);refine a_G ?hg (N:=3) ?hd (cs:=#[.int .i64 a1]) (t:=3) ?hr ?_;(case hd => rfl);(case hg => rfl);(case hr => first|(go_simp;done)|(go_simp;rfl));intro g_x hg w5 hbox hb;have i_A:=a_b.mk (hbox);have l_7:=a_b.mk ((by rw [hg];exact (a_g (by repeat (first|(with_reducible first|exact HB.out|apply a_f|apply a_c|apply a_e|refine a_d ?_ g_H.out)|exact HB.out))) : w.heap.size ≤ g_x));have j_w:=a_b.mk ((by rw [hg];exact (a_g (by repeat (first|(with_reducible first|exact HB.out|apply a_f|apply a_c|apply a_e|refine a_d ?_ g_H.out)|exact HB.out))) : w.heap.size ≤ g_x));have g_N:=a_b.mk ((by rw [hg];exact Nat.ne_of_lt (a_K (bup_ e_7.out)) : g_8 ≠ g_x));have g_O:=a_b.mk ((by rw [hg];exact Nat.ne_of_gt (a_K (bup_ e_7.out)) : g_x ≠ g_8));replace e_7:=a_b.mk (a_i (bup_ e_7.out) hb);replace HB:=a_b.mk (a_m (by repeat (first|(with_reducible first|exact HB.out|apply a_f|apply a_c|apply a_e|refine a_d ?_ g_H.out)|exact HB.out)) hb);clear hb hbox hg;have hnb6:=g_N.out;have hnc6:=g_O.out;have d_8 : w5.cell? ⟨g_8,0,none⟩ = some (.slice A0_0 l0_0.length c0_0):=(a_h e_7.out 0).trans rfl;have d_9:=a_p e_7.out 0)|((with_reducible refine a_D (f:=48) rfl ?_);refine b_n (some 7) rfl rfl Tryd.func48 (by kernel_rfl) rfl #[.agg #[.slice A0_0 l0_0.length c0_0],.func (.func 49) #[] #[.pointer (some ⟨g_x,0,none⟩)]] rfl (by (try simp only [List.map_toArray,List.map_cons,List.map_nil]);first|done|rfl|(simp only [List.length_drop,List.length_take];rfl)) ?_;(with_reducible refine (b_M.calls _ _ l0_0 g_x a1 t126 _ ?side1 ?side2 ?side3 A3.out).mono ?_);(case side1 => repeat (first|exact (Kd.a_5 b_V.out HB.out)|(with_reducible refine Kd.a_M ?_ _)|(with_reducible refine Kd.a_N ?_ _)|(with_reducible refine Kd.a_2 ?_)));(case side2 => exact c_l.out);(case side3 => exact (bup_ i_A.out));rintro e w8 ⟨rfl,hb⟩;refine ⟨_,rfl,?_⟩;replace e_7:=a_b.mk (a_i (bup_ e_7.out) hb);replace i_A:=a_b.mk (a_i (bup_ i_A.out) hb);replace HB:=a_b.mk (a_m (by repeat (first|(with_reducible first|exact HB.out|apply a_f|apply a_c|apply a_e|refine a_d ?_ g_H.out|refine a_d ?_ j_w.out)|exact HB.out)) hb);(try clear hb);(try clear hb2);(try clear hk);(try clear hi)))
 go_ret
 exact ⟨by first|rfl|(simp [a_r,a_s] <;> rfl)|(simp [*, a_r,a_s] <;> rfl),by repeat (first|(with_reducible first|exact HB.out|apply a_f|apply a_c|apply a_e|refine a_d ?_ g_H.out|refine a_d ?_ j_w.out)|exact HB.out)⟩
end Go.Proofs.YtcpfcehfgenljaaDoor.Q
end
section
namespace Go.Proofs.YtcpfcehfgenljaaDoor.Q
open Go.RowKit Go.Proofs.YtcpfcehfgenljaaDoorW.PrintWords Go.Proofs.YtcpfcehfgenljaaDoorW.PrintLast Go.Proofs.YtcpfcehfgenljaaDoorW.PrintMore
set_option linter.unusedVariables false
set_option linter.unusedSimpArgs false
def a_y.f (k : Nat)  : Option (Bool):=(a_v.f k 2 1 2).bind fun bt127 => ((b_x.f k bt127.1 0 2).bind fun bt132 => ((b_Q.f bt127.1 2 15).bind fun bt134 => (if bt127.2 = 0 then (if bt132.2 = 0 then (if bt134.2 = 0 then (if bt132.1 = 3 then (if (bt134.1.length : Int) = 4 then (if 1 < (bt134.1.length : Int) then (if (rd bt134.1 1) = 3 then ((b_u.f bt127.1 1).bind fun t139 => (some (t139 == 12))) else (some false)) else (none)) else (some false)) else (some false)) else (some false)) else (some false)) else (some false))))
theorem a_y.mono : ∀ k,LeO (a_y.f k ) (a_y.f (k + 1) ):=by
 intro  k
 unfold a_y.f
 repeat' first
  | (with_reducible exact b_x.mono _ _ _ _)
  | (with_reducible exact a_v.mono _ _ _ _)
  | (with_reducible exact LeO.refl _)
  | (with_reducible exact LeO.none _)
  | (with_reducible refine LeO.ite ?_ ?_)
  | (with_reducible refine LeO.bind ?_ (fun _ => ?_))
  | exact b_x.mono _ _ _ _
  | exact a_v.mono _ _ _ _
  | exact LeO.none _
  | refine LeO.ite ?_ ?_
  | refine LeO.bind ?_ (fun _ => ?_)
set_option maxHeartbeats 8000000 in
set_option maxRecDepth 100000 in
theorem a_y.calls (k : Nat)  (r : Bool) (w : World) (ht : c_g w) (h : a_y.f k  = some r) :
 Calls Tryd.prog 10 #[] w fun e w' => e = .returned (.bool r) ∧ Below w.heap.size w w':=by
 have hu24:=Tryd.underlying24
 have HTAB_:=a_b.mk ht
 clear ht
 have HB:=a_b.mk (Below.refl w.heap.size w)
 have H : ((a_v.f k 2 1 2).bind fun bt127 => ((b_x.f k bt127.1 0 2).bind fun bt132 => ((b_Q.f bt127.1 2 15).bind fun bt134 => (if bt127.2 = 0 then (if bt132.2 = 0 then (if bt134.2 = 0 then (if bt132.1 = 3 then (if (bt134.1.length : Int) = 4 then (if 1 < (bt134.1.length : Int) then (if (rd bt134.1 1) = 3 then ((b_u.f bt127.1 1).bind fun t139 => (some (t139 == 12))) else (some false)) else (none)) else (some false)) else (some false)) else (some false)) else (some false)) else (some false))))) = some r:=h
 clear h
 replace H:=Option.bind_eq_some_iff.mp H
 obtain ⟨⟨t127,t130⟩,A10,H⟩:=H
 replace H : ((b_x.f k t127 0 2).bind fun bt132 => ((b_Q.f t127 2 15).bind fun bt134 => (if t130 = 0 then (if bt132.2 = 0 then (if bt134.2 = 0 then (if bt132.1 = 3 then (if (bt134.1.length : Int) = 4 then (if 1 < (bt134.1.length : Int) then (if (rd bt134.1 1) = 3 then ((b_u.f t127 1).bind fun t139 => (some (t139 == 12))) else (some false)) else (none)) else (some false)) else (some false)) else (some false)) else (some false)) else (some false)))) = some r:=H
 have A1:=a_b.mk A10
 clear A10
 replace H:=Option.bind_eq_some_iff.mp H
 obtain ⟨⟨t132,t133⟩,A20,H⟩:=H
 replace H : ((b_Q.f t127 2 15).bind fun bt134 => (if t130 = 0 then (if t133 = 0 then (if bt134.2 = 0 then (if t132 = 3 then (if (bt134.1.length : Int) = 4 then (if 1 < (bt134.1.length : Int) then (if (rd bt134.1 1) = 3 then ((b_u.f t127 1).bind fun t139 => (some (t139 == 12))) else (some false)) else (none)) else (some false)) else (some false)) else (some false)) else (some false)) else (some false))) = some r:=H
 have A2:=a_b.mk A20
 clear A20
 replace H:=Option.bind_eq_some_iff.mp H
 obtain ⟨⟨t134,t137⟩,A30,H⟩:=H
 replace H : (if t130 = 0 then (if t133 = 0 then (if t137 = 0 then (if t132 = 3 then (if (t134.length : Int) = 4 then (if 1 < (t134.length : Int) then (if (rd t134 1) = 3 then ((b_u.f t127 1).bind fun t139 => (some (t139 == 12))) else (some false)) else (none)) else (some false)) else (some false)) else (some false)) else (some false)) else (some false)) = some r:=H
 have A3:=a_b.mk A30
 clear A30
 by_cases c4 : t130 = 0
 rotate_left
 ·rw [if_neg c4] at H
  have c4b0 : (t130 == 0) = false:=beq_eq_false_iff_ne.mpr c4
  have c4b1 : (t130 != 0) = true:=bne_iff_ne.mpr c4
  obtain rfl:=Option.some.inj H
  go_enter Tryd.func10,Tryd.ntmps10
  go_wp2_with (first|((with_reducible refine a_D (f:=26) rfl ?_);refine b_n (some 8) rfl rfl Tryd.func26 (by kernel_rfl) rfl #[.int .i64 2,.int .i64 1,.int .i64 2] rfl (by (try simp only [List.map_toArray,List.map_cons,List.map_nil]);first|done|rfl|(simp only [List.length_drop,List.length_take];rfl)) ?_;(with_reducible refine (a_v.calls k 2 1 2 t127 t130 _ A1.out).mono ?_);rintro e w59 ⟨v128,rfl,ho0,hb⟩;refine ⟨_,rfl,?_⟩;have b_a:=a_b.mk (Kd.b_v ho0 (a_g (lup_ HB.out)));replace HB:=a_b.mk (a_m (lup_ HB.out) hb);(try clear hb);(try clear hb2);(try clear hk);(try clear hi);(try clear ho0))|((with_reducible refine a_L (N:=1) rfl ?_);(try (refine b_k (by rfl) ?_;dsimp only));refine a_G ?hg (N:=1) ?hd (cs:=#[.slice none 0 0]) (t:=24) ?hr ?_;(case hd => rfl);(case hg => rfl);(case hr => first|(go_simp;done)|(go_simp;rfl));intro b_w hg w60 hbox hb;have b_h:=a_b.mk (hbox);have g_o:=a_b.mk ((by rw [hg];exact (a_g (lup_ HB.out)) : w.heap.size ≤ b_w));have b_U:=a_b.mk ((by rw [hg];exact (a_g (lup_ HB.out)) : w.heap.size ≤ b_w));replace b_a:=a_b.mk (Kd.a_B (rup_ b_a.out) hb);replace HB:=a_b.mk (a_m (lup_ HB.out) hb);clear hb hbox hg;obtain ⟨Ao61,co61,eo61⟩:=Kd.b_5 b_a.out;subst eo61;have k_X : w60.cell? ⟨b_w,0,none⟩ = some (.slice none 0 0):=(a_h b_h.out 0).trans rfl;have l_n:=a_p b_h.out 0)|((with_reducible refine a_D (f:=17) rfl ?_);refine b_n (some 13) rfl rfl Tryd.func17 (by kernel_rfl) rfl #[.agg #[.slice Ao61 t127.length co61],.int .i64 0,.int .i64 2] rfl (by (try simp only [List.map_toArray,List.map_cons,List.map_nil]);first|done|rfl|(simp only [List.length_drop,List.length_take];rfl)) ?_;(with_reducible refine (b_x.calls k _ _ t127 0 2 t132 t133 _ ?side1 ?side2 A2.out).mono ?_);(case side1 => refine (Kd.a_w (e:=56) (base:=w.heap.size) (ok:=fun k_ => True) (n:=t127.length) (c:=co61) ?_).2.2;exact (by (with_reducible repeat (first|apply Kd.a_I|apply Kd.a_J|apply Kd.a_F));exact (Kd.a_X (Kd.b_9 (p:=⟨b_w,0,none⟩) (Kd.b_I b_a.out b_h.out (by decide)) (fun _ hk => hk.2) (.slice Ao61 t127.length co61)) (fun _ h_ => h_.1))));(case side2 => exact (Kd.a_w b_a.out).2.1);rintro e w63 ⟨rfl,hb⟩;refine ⟨_,rfl,?_⟩;replace b_a:=a_b.mk (Kd.a_B (by (with_reducible repeat (first|apply Kd.a_I|apply Kd.a_J|apply Kd.a_F));exact (Kd.a_X (Kd.b_9 (p:=⟨b_w,0,none⟩) (Kd.b_I b_a.out b_h.out (by decide)) (fun _ hk => hk.2) (.slice Ao61 t127.length co61)) (fun _ h_ => h_.1))) hb);replace b_h:=a_b.mk (a_i (g:=b_w) (o:=.cells #[.slice Ao61 t127.length co61] 24 (0,0)) (by (with_reducible repeat (first|refine a_l ?_ _|refine a_j ?_|refine a_k ?_ _));refine b_p (cs:=#[.slice none 0 0]) ?_ 0 _ rfl;(with_reducible repeat (first|refine a_l ?_ _|refine a_j ?_|refine a_k ?_ _));exact b_h.out) hb);replace HB:=a_b.mk (a_m (by repeat (first|(with_reducible first|exact HB.out|apply a_f|apply a_c|apply a_e|refine a_d ?_ b_U.out)|exact HB.out)) hb);(try clear hb);(try clear hb2);(try clear hk);(try clear hi);have k_Y : w63.cell? ⟨b_w,0,none⟩ = some (.slice Ao61 t127.length co61):=(a_h b_h.out 0).trans rfl;have l_o:=a_p b_h.out 0)|((with_reducible refine a_D (f:=20) rfl ?_);refine b_n (some 18) rfl rfl Tryd.func20 (by kernel_rfl) rfl #[.agg #[.slice Ao61 t127.length co61],.int .i64 2,.int .u32 15] rfl (by (try simp only [List.map_toArray,List.map_cons,List.map_nil]);first|done|rfl|(simp only [List.length_drop,List.length_take];rfl)) ?_;(with_reducible refine (b_Q.calls _ _ t127 2 15 t134 t137 _ ?side1 ?side2 ?side3 A3.out).mono ?_);(case side1 => repeat (first|exact (Kd.a_w b_a.out).2.2|(with_reducible refine Kd.a_M ?_ _)|(with_reducible refine Kd.a_N ?_ _)|(with_reducible refine Kd.a_2 ?_)));(case side2 => exact (Kd.a_w b_a.out).2.1);(case side3 => exact c_g.below HTAB_.out (by repeat (first|(with_reducible first|exact HB.out|apply a_f|apply a_c|apply a_e|refine a_d ?_ b_U.out)|exact HB.out)));rintro e w65 ⟨v135,rfl,ho0,hb⟩;refine ⟨_,rfl,?_⟩;have d_D:=a_b.mk (Kd.b_v ho0 (a_g (by repeat (first|(with_reducible first|exact HB.out|apply a_f|apply a_c|apply a_e|refine a_d ?_ b_U.out)|exact HB.out))));replace b_a:=a_b.mk (Kd.a_B (rup_ b_a.out) hb);replace b_h:=a_b.mk (a_i (bup_ b_h.out) hb);replace HB:=a_b.mk (a_m (by repeat (first|(with_reducible first|exact HB.out|apply a_f|apply a_c|apply a_e|refine a_d ?_ b_U.out)|exact HB.out)) hb);(try clear hb);(try clear hb2);(try clear hk);(try clear hi);(try clear ho0)))
  go_ret
  exact ⟨by first|rfl|(simp [a_r,a_s] <;> rfl)|(simp [*, a_r,a_s] <;> rfl),by repeat (first|(with_reducible first|exact HB.out|apply a_f|apply a_c|apply a_e|refine a_d ?_ b_U.out)|exact HB.out)⟩
 rw [if_pos c4] at H
 have c4b0 : (t130 == 0) = true:=beq_iff_eq.mpr c4
 have c4b1 : (t130 != 0) = false:=bne_eq_false_iff_eq.mpr c4
 clear c4
 by_cases c5 : t133 = 0
 rotate_left
 ·rw [if_neg c5] at H
  have c5b0 : (t133 == 0) = false:=beq_eq_false_iff_ne.mpr c5
  have c5b1 : (t133 != 0) = true:=bne_iff_ne.mpr c5
  obtain rfl:=Option.some.inj H
  go_enter Tryd.func10,Tryd.ntmps10
  go_wp2_with (first|((with_reducible refine a_D (f:=26) rfl ?_);refine b_n (some 8) rfl rfl Tryd.func26 (by kernel_rfl) rfl #[.int .i64 2,.int .i64 1,.int .i64 2] rfl (by (try simp only [List.map_toArray,List.map_cons,List.map_nil]);first|done|rfl|(simp only [List.length_drop,List.length_take];rfl)) ?_;(with_reducible refine (a_v.calls k 2 1 2 t127 t130 _ A1.out).mono ?_);rintro e w52 ⟨v128,rfl,ho0,hb⟩;refine ⟨_,rfl,?_⟩;have b_a:=a_b.mk (Kd.b_v ho0 (a_g (lup_ HB.out)));replace HB:=a_b.mk (a_m (lup_ HB.out) hb);(try clear hb);(try clear hb2);(try clear hk);(try clear hi);(try clear ho0))|((with_reducible refine a_L (N:=1) rfl ?_);(try (refine b_k (by rfl) ?_;dsimp only));refine a_G ?hg (N:=1) ?hd (cs:=#[.slice none 0 0]) (t:=24) ?hr ?_;(case hd => rfl);(case hg => rfl);(case hr => first|(go_simp;done)|(go_simp;rfl));intro b_w hg w53 hbox hb;have b_h:=a_b.mk (hbox);have g_o:=a_b.mk ((by rw [hg];exact (a_g (lup_ HB.out)) : w.heap.size ≤ b_w));have b_U:=a_b.mk ((by rw [hg];exact (a_g (lup_ HB.out)) : w.heap.size ≤ b_w));replace b_a:=a_b.mk (Kd.a_B (rup_ b_a.out) hb);replace HB:=a_b.mk (a_m (lup_ HB.out) hb);clear hb hbox hg;obtain ⟨Ao54,co54,eo54⟩:=Kd.b_5 b_a.out;subst eo54;have k_V : w53.cell? ⟨b_w,0,none⟩ = some (.slice none 0 0):=(a_h b_h.out 0).trans rfl;have l_l:=a_p b_h.out 0)|((with_reducible refine a_D (f:=17) rfl ?_);refine b_n (some 13) rfl rfl Tryd.func17 (by kernel_rfl) rfl #[.agg #[.slice Ao54 t127.length co54],.int .i64 0,.int .i64 2] rfl (by (try simp only [List.map_toArray,List.map_cons,List.map_nil]);first|done|rfl|(simp only [List.length_drop,List.length_take];rfl)) ?_;(with_reducible refine (b_x.calls k _ _ t127 0 2 t132 t133 _ ?side1 ?side2 A2.out).mono ?_);(case side1 => refine (Kd.a_w (e:=56) (base:=w.heap.size) (ok:=fun k_ => True) (n:=t127.length) (c:=co54) ?_).2.2;exact (by (with_reducible repeat (first|apply Kd.a_I|apply Kd.a_J|apply Kd.a_F));exact (Kd.a_X (Kd.b_9 (p:=⟨b_w,0,none⟩) (Kd.b_I b_a.out b_h.out (by decide)) (fun _ hk => hk.2) (.slice Ao54 t127.length co54)) (fun _ h_ => h_.1))));(case side2 => exact (Kd.a_w b_a.out).2.1);rintro e w56 ⟨rfl,hb⟩;refine ⟨_,rfl,?_⟩;replace b_a:=a_b.mk (Kd.a_B (by (with_reducible repeat (first|apply Kd.a_I|apply Kd.a_J|apply Kd.a_F));exact (Kd.a_X (Kd.b_9 (p:=⟨b_w,0,none⟩) (Kd.b_I b_a.out b_h.out (by decide)) (fun _ hk => hk.2) (.slice Ao54 t127.length co54)) (fun _ h_ => h_.1))) hb);replace b_h:=a_b.mk (a_i (g:=b_w) (o:=.cells #[.slice Ao54 t127.length co54] 24 (0,0)) (by (with_reducible repeat (first|refine a_l ?_ _|refine a_j ?_|refine a_k ?_ _));refine b_p (cs:=#[.slice none 0 0]) ?_ 0 _ rfl;(with_reducible repeat (first|refine a_l ?_ _|refine a_j ?_|refine a_k ?_ _));exact b_h.out) hb);replace HB:=a_b.mk (a_m (by repeat (first|(with_reducible first|exact HB.out|apply a_f|apply a_c|apply a_e|refine a_d ?_ b_U.out)|exact HB.out)) hb);(try clear hb);(try clear hb2);(try clear hk);(try clear hi);have k_W : w56.cell? ⟨b_w,0,none⟩ = some (.slice Ao54 t127.length co54):=(a_h b_h.out 0).trans rfl;have l_m:=a_p b_h.out 0)|((with_reducible refine a_D (f:=20) rfl ?_);refine b_n (some 18) rfl rfl Tryd.func20 (by kernel_rfl) rfl #[.agg #[.slice Ao54 t127.length co54],.int .i64 2,.int .u32 15] rfl (by (try simp only [List.map_toArray,List.map_cons,List.map_nil]);first|done|rfl|(simp only [List.length_drop,List.length_take];rfl)) ?_;(with_reducible refine (b_Q.calls _ _ t127 2 15 t134 t137 _ ?side1 ?side2 ?side3 A3.out).mono ?_);(case side1 => repeat (first|exact (Kd.a_w b_a.out).2.2|(with_reducible refine Kd.a_M ?_ _)|(with_reducible refine Kd.a_N ?_ _)|(with_reducible refine Kd.a_2 ?_)));(case side2 => exact (Kd.a_w b_a.out).2.1);(case side3 => exact c_g.below HTAB_.out (by repeat (first|(with_reducible first|exact HB.out|apply a_f|apply a_c|apply a_e|refine a_d ?_ b_U.out)|exact HB.out)));rintro e w58 ⟨v135,rfl,ho0,hb⟩;refine ⟨_,rfl,?_⟩;have d_D:=a_b.mk (Kd.b_v ho0 (a_g (by repeat (first|(with_reducible first|exact HB.out|apply a_f|apply a_c|apply a_e|refine a_d ?_ b_U.out)|exact HB.out))));replace b_a:=a_b.mk (Kd.a_B (rup_ b_a.out) hb);replace b_h:=a_b.mk (a_i (bup_ b_h.out) hb);replace HB:=a_b.mk (a_m (by repeat (first|(with_reducible first|exact HB.out|apply a_f|apply a_c|apply a_e|refine a_d ?_ b_U.out)|exact HB.out)) hb);(try clear hb);(try clear hb2);(try clear hk);(try clear hi);(try clear ho0)))
  go_ret
  exact ⟨by first|rfl|(simp [a_r,a_s] <;> rfl)|(simp [*, a_r,a_s] <;> rfl),by repeat (first|(with_reducible first|exact HB.out|apply a_f|apply a_c|apply a_e|refine a_d ?_ b_U.out)|exact HB.out)⟩
 rw [if_pos c5] at H
 have c5b0 : (t133 == 0) = true:=beq_iff_eq.mpr c5
 have c5b1 : (t133 != 0) = false:=bne_eq_false_iff_eq.mpr c5
 clear c5
 by_cases c6 : t137 = 0
 rotate_left
 ·rw [if_neg c6] at H
  have c6b0 : (t137 == 0) = false:=beq_eq_false_iff_ne.mpr c6
  have c6b1 : (t137 != 0) = true:=bne_iff_ne.mpr c6
  obtain rfl:=Option.some.inj H
  go_enter Tryd.func10,Tryd.ntmps10
  go_wp2_with (first|((with_reducible refine a_D (f:=26) rfl ?_);refine b_n (some 8) rfl rfl Tryd.func26 (by kernel_rfl) rfl #[.int .i64 2,.int .i64 1,.int .i64 2] rfl (by (try simp only [List.map_toArray,List.map_cons,List.map_nil]);first|done|rfl|(simp only [List.length_drop,List.length_take];rfl)) ?_;(with_reducible refine (a_v.calls k 2 1 2 t127 t130 _ A1.out).mono ?_);rintro e w45 ⟨v128,rfl,ho0,hb⟩;refine ⟨_,rfl,?_⟩;have b_a:=a_b.mk (Kd.b_v ho0 (a_g (lup_ HB.out)));replace HB:=a_b.mk (a_m (lup_ HB.out) hb);(try clear hb);(try clear hb2);(try clear hk);(try clear hi);(try clear ho0))|((with_reducible refine a_L (N:=1) rfl ?_);(try (refine b_k (by rfl) ?_;dsimp only));refine a_G ?hg (N:=1) ?hd (cs:=#[.slice none 0 0]) (t:=24) ?hr ?_;(case hd => rfl);(case hg => rfl);(case hr => first|(go_simp;done)|(go_simp;rfl));intro b_w hg w46 hbox hb;have b_h:=a_b.mk (hbox);have g_o:=a_b.mk ((by rw [hg];exact (a_g (lup_ HB.out)) : w.heap.size ≤ b_w));have b_U:=a_b.mk ((by rw [hg];exact (a_g (lup_ HB.out)) : w.heap.size ≤ b_w));replace b_a:=a_b.mk (Kd.a_B (rup_ b_a.out) hb);replace HB:=a_b.mk (a_m (lup_ HB.out) hb);clear hb hbox hg;obtain ⟨Ao47,co47,eo47⟩:=Kd.b_5 b_a.out;subst eo47;have k_T : w46.cell? ⟨b_w,0,none⟩ = some (.slice none 0 0):=(a_h b_h.out 0).trans rfl;have l_j:=a_p b_h.out 0)|((with_reducible refine a_D (f:=17) rfl ?_);refine b_n (some 13) rfl rfl Tryd.func17 (by kernel_rfl) rfl #[.agg #[.slice Ao47 t127.length co47],.int .i64 0,.int .i64 2] rfl (by (try simp only [List.map_toArray,List.map_cons,List.map_nil]);first|done|rfl|(simp only [List.length_drop,List.length_take];rfl)) ?_;(with_reducible refine (b_x.calls k _ _ t127 0 2 t132 t133 _ ?side1 ?side2 A2.out).mono ?_);(case side1 => refine (Kd.a_w (e:=56) (base:=w.heap.size) (ok:=fun k_ => True) (n:=t127.length) (c:=co47) ?_).2.2;exact (by (with_reducible repeat (first|apply Kd.a_I|apply Kd.a_J|apply Kd.a_F));exact (Kd.a_X (Kd.b_9 (p:=⟨b_w,0,none⟩) (Kd.b_I b_a.out b_h.out (by decide)) (fun _ hk => hk.2) (.slice Ao47 t127.length co47)) (fun _ h_ => h_.1))));(case side2 => exact (Kd.a_w b_a.out).2.1);rintro e w49 ⟨rfl,hb⟩;refine ⟨_,rfl,?_⟩;replace b_a:=a_b.mk (Kd.a_B (by (with_reducible repeat (first|apply Kd.a_I|apply Kd.a_J|apply Kd.a_F));exact (Kd.a_X (Kd.b_9 (p:=⟨b_w,0,none⟩) (Kd.b_I b_a.out b_h.out (by decide)) (fun _ hk => hk.2) (.slice Ao47 t127.length co47)) (fun _ h_ => h_.1))) hb);replace b_h:=a_b.mk (a_i (g:=b_w) (o:=.cells #[.slice Ao47 t127.length co47] 24 (0,0)) (by (with_reducible repeat (first|refine a_l ?_ _|refine a_j ?_|refine a_k ?_ _));refine b_p (cs:=#[.slice none 0 0]) ?_ 0 _ rfl;(with_reducible repeat (first|refine a_l ?_ _|refine a_j ?_|refine a_k ?_ _));exact b_h.out) hb);replace HB:=a_b.mk (a_m (by repeat (first|(with_reducible first|exact HB.out|apply a_f|apply a_c|apply a_e|refine a_d ?_ b_U.out)|exact HB.out)) hb);(try clear hb);(try clear hb2);(try clear hk);(try clear hi);have k_U : w49.cell? ⟨b_w,0,none⟩ = some (.slice Ao47 t127.length co47):=(a_h b_h.out 0).trans rfl;have l_k:=a_p b_h.out 0)|((with_reducible refine a_D (f:=20) rfl ?_);refine b_n (some 18) rfl rfl Tryd.func20 (by kernel_rfl) rfl #[.agg #[.slice Ao47 t127.length co47],.int .i64 2,.int .u32 15] rfl (by (try simp only [List.map_toArray,List.map_cons,List.map_nil]);first|done|rfl|(simp only [List.length_drop,List.length_take];rfl)) ?_;(with_reducible refine (b_Q.calls _ _ t127 2 15 t134 t137 _ ?side1 ?side2 ?side3 A3.out).mono ?_);(case side1 => repeat (first|exact (Kd.a_w b_a.out).2.2|(with_reducible refine Kd.a_M ?_ _)|(with_reducible refine Kd.a_N ?_ _)|(with_reducible refine Kd.a_2 ?_)));(case side2 => exact (Kd.a_w b_a.out).2.1);(case side3 => exact c_g.below HTAB_.out (by repeat (first|(with_reducible first|exact HB.out|apply a_f|apply a_c|apply a_e|refine a_d ?_ b_U.out)|exact HB.out)));rintro e w51 ⟨v135,rfl,ho0,hb⟩;refine ⟨_,rfl,?_⟩;have d_D:=a_b.mk (Kd.b_v ho0 (a_g (by repeat (first|(with_reducible first|exact HB.out|apply a_f|apply a_c|apply a_e|refine a_d ?_ b_U.out)|exact HB.out))));replace b_a:=a_b.mk (Kd.a_B (rup_ b_a.out) hb);replace b_h:=a_b.mk (a_i (bup_ b_h.out) hb);replace HB:=a_b.mk (a_m (by repeat (first|(with_reducible first|exact HB.out|apply a_f|apply a_c|apply a_e|refine a_d ?_ b_U.out)|exact HB.out)) hb);(try clear hb);(try clear hb2);(try clear hk);(try clear hi);(try clear ho0)))
  go_ret
  exact ⟨by first|rfl|(simp [a_r,a_s] <;> rfl)|(simp [*, a_r,a_s] <;> rfl),by repeat (first|(with_reducible first|exact HB.out|apply a_f|apply a_c|apply a_e|refine a_d ?_ b_U.out)|exact HB.out)⟩
 rw [if_pos c6] at H
 have c6b0 : (t137 == 0) = true:=beq_iff_eq.mpr c6
 have c6b1 : (t137 != 0) = false:=bne_eq_false_iff_eq.mpr c6
 clear c6
 by_cases c7 : t132 = 3
 rotate_left
 ·rw [if_neg c7] at H
  have c7b0 : (t132 == 3) = false:=beq_eq_false_iff_ne.mpr c7
  have c7b1 : (t132 != 3) = true:=bne_iff_ne.mpr c7
  obtain rfl:=Option.some.inj H
  go_enter Tryd.func10,Tryd.ntmps10
  go_wp2_with (first|((with_reducible refine a_D (f:=26) rfl ?_);refine b_n (some 8) rfl rfl Tryd.func26 (by kernel_rfl) rfl #[.int .i64 2,.int .i64 1,.int .i64 2] rfl (by (try simp only [List.map_toArray,List.map_cons,List.map_nil]);first|done|rfl|(simp only [List.length_drop,List.length_take];rfl)) ?_;(with_reducible refine (a_v.calls k 2 1 2 t127 t130 _ A1.out).mono ?_);rintro e w38 ⟨v128,rfl,ho0,hb⟩;refine ⟨_,rfl,?_⟩;have b_a:=a_b.mk (Kd.b_v ho0 (a_g (lup_ HB.out)));replace HB:=a_b.mk (a_m (lup_ HB.out) hb);(try clear hb);(try clear hb2);(try clear hk);(try clear hi);(try clear ho0))|((with_reducible refine a_L (N:=1) rfl ?_);(try (refine b_k (by rfl) ?_;dsimp only));refine a_G ?hg (N:=1) ?hd (cs:=#[.slice none 0 0]) (t:=24) ?hr ?_;(case hd => rfl);(case hg => rfl);(case hr => first|(go_simp;done)|(go_simp;rfl));intro b_w hg w39 hbox hb;have b_h:=a_b.mk (hbox);have g_o:=a_b.mk ((by rw [hg];exact (a_g (lup_ HB.out)) : w.heap.size ≤ b_w));have b_U:=a_b.mk ((by rw [hg];exact (a_g (lup_ HB.out)) : w.heap.size ≤ b_w));replace b_a:=a_b.mk (Kd.a_B (rup_ b_a.out) hb);replace HB:=a_b.mk (a_m (lup_ HB.out) hb);clear hb hbox hg;obtain ⟨Ao40,co40,eo40⟩:=Kd.b_5 b_a.out;subst eo40;have i_Y : w39.cell? ⟨b_w,0,none⟩ = some (.slice none 0 0):=(a_h b_h.out 0).trans rfl;have j_a:=a_p b_h.out 0)|((with_reducible refine a_D (f:=17) rfl ?_);refine b_n (some 13) rfl rfl Tryd.func17 (by kernel_rfl) rfl #[.agg #[.slice Ao40 t127.length co40],.int .i64 0,.int .i64 2] rfl (by (try simp only [List.map_toArray,List.map_cons,List.map_nil]);first|done|rfl|(simp only [List.length_drop,List.length_take];rfl)) ?_;(with_reducible refine (b_x.calls k _ _ t127 0 2 t132 t133 _ ?side1 ?side2 A2.out).mono ?_);(case side1 => refine (Kd.a_w (e:=56) (base:=w.heap.size) (ok:=fun k_ => True) (n:=t127.length) (c:=co40) ?_).2.2;exact (by (with_reducible repeat (first|apply Kd.a_I|apply Kd.a_J|apply Kd.a_F));exact (Kd.a_X (Kd.b_9 (p:=⟨b_w,0,none⟩) (Kd.b_I b_a.out b_h.out (by decide)) (fun _ hk => hk.2) (.slice Ao40 t127.length co40)) (fun _ h_ => h_.1))));(case side2 => exact (Kd.a_w b_a.out).2.1);rintro e w42 ⟨rfl,hb⟩;refine ⟨_,rfl,?_⟩;replace b_a:=a_b.mk (Kd.a_B (by (with_reducible repeat (first|apply Kd.a_I|apply Kd.a_J|apply Kd.a_F));exact (Kd.a_X (Kd.b_9 (p:=⟨b_w,0,none⟩) (Kd.b_I b_a.out b_h.out (by decide)) (fun _ hk => hk.2) (.slice Ao40 t127.length co40)) (fun _ h_ => h_.1))) hb);replace b_h:=a_b.mk (a_i (g:=b_w) (o:=.cells #[.slice Ao40 t127.length co40] 24 (0,0)) (by (with_reducible repeat (first|refine a_l ?_ _|refine a_j ?_|refine a_k ?_ _));refine b_p (cs:=#[.slice none 0 0]) ?_ 0 _ rfl;(with_reducible repeat (first|refine a_l ?_ _|refine a_j ?_|refine a_k ?_ _));exact b_h.out) hb);replace HB:=a_b.mk (a_m (by repeat (first|(with_reducible first|exact HB.out|apply a_f|apply a_c|apply a_e|refine a_d ?_ b_U.out)|exact HB.out)) hb);(try clear hb);(try clear hb2);(try clear hk);(try clear hi);have k_O : w42.cell? ⟨b_w,0,none⟩ = some (.slice Ao40 t127.length co40):=(a_h b_h.out 0).trans rfl;have l_e:=a_p b_h.out 0)|((with_reducible refine a_D (f:=20) rfl ?_);refine b_n (some 18) rfl rfl Tryd.func20 (by kernel_rfl) rfl #[.agg #[.slice Ao40 t127.length co40],.int .i64 2,.int .u32 15] rfl (by (try simp only [List.map_toArray,List.map_cons,List.map_nil]);first|done|rfl|(simp only [List.length_drop,List.length_take];rfl)) ?_;(with_reducible refine (b_Q.calls _ _ t127 2 15 t134 t137 _ ?side1 ?side2 ?side3 A3.out).mono ?_);(case side1 => repeat (first|exact (Kd.a_w b_a.out).2.2|(with_reducible refine Kd.a_M ?_ _)|(with_reducible refine Kd.a_N ?_ _)|(with_reducible refine Kd.a_2 ?_)));(case side2 => exact (Kd.a_w b_a.out).2.1);(case side3 => exact c_g.below HTAB_.out (by repeat (first|(with_reducible first|exact HB.out|apply a_f|apply a_c|apply a_e|refine a_d ?_ b_U.out)|exact HB.out)));rintro e w44 ⟨v135,rfl,ho0,hb⟩;refine ⟨_,rfl,?_⟩;have d_D:=a_b.mk (Kd.b_v ho0 (a_g (by repeat (first|(with_reducible first|exact HB.out|apply a_f|apply a_c|apply a_e|refine a_d ?_ b_U.out)|exact HB.out))));replace b_a:=a_b.mk (Kd.a_B (rup_ b_a.out) hb);replace b_h:=a_b.mk (a_i (bup_ b_h.out) hb);replace HB:=a_b.mk (a_m (by repeat (first|(with_reducible first|exact HB.out|apply a_f|apply a_c|apply a_e|refine a_d ?_ b_U.out)|exact HB.out)) hb);(try clear hb);(try clear hb2);(try clear hk);(try clear hi);(try clear ho0)))
  go_ret
  exact ⟨by first|rfl|(simp [a_r,a_s] <;> rfl)|(simp [*, a_r,a_s] <;> rfl),by repeat (first|(with_reducible first|exact HB.out|apply a_f|apply a_c|apply a_e|refine a_d ?_ b_U.out)|exact HB.out)⟩
 rw [if_pos c7] at H
 have c7b0 : (t132 == 3) = true:=beq_iff_eq.mpr c7
 have c7b1 : (t132 != 3) = false:=bne_eq_false_iff_eq.mpr c7
 clear c7
 by_cases c8 : (t134.length : Int) = 4
 rotate_left
 ·rw [if_neg c8] at H
  have c8b0 : ((t134.length : Int) == 4) = false:=beq_eq_false_iff_ne.mpr c8
  have c8b1 : ((t134.length : Int) != 4) = true:=bne_iff_ne.mpr c8
  obtain rfl:=Option.some.inj H
  go_enter Tryd.func10,Tryd.ntmps10
  go_wp2_with (first|((with_reducible refine a_D (f:=26) rfl ?_);refine b_n (some 8) rfl rfl Tryd.func26 (by kernel_rfl) rfl #[.int .i64 2,.int .i64 1,.int .i64 2] rfl (by (try simp only [List.map_toArray,List.map_cons,List.map_nil]);first|done|rfl|(simp only [List.length_drop,List.length_take];rfl)) ?_;(with_reducible refine (a_v.calls k 2 1 2 t127 t130 _ A1.out).mono ?_);rintro e w30 ⟨v128,rfl,ho0,hb⟩;refine ⟨_,rfl,?_⟩;have b_a:=a_b.mk (Kd.b_v ho0 (a_g (lup_ HB.out)));replace HB:=a_b.mk (a_m (lup_ HB.out) hb);(try clear hb);(try clear hb2);(try clear hk);(try clear hi);(try clear ho0))|((with_reducible refine a_L (N:=1) rfl ?_);(try (refine b_k (by rfl) ?_;dsimp only));refine a_G ?hg (N:=1) ?hd (cs:=#[.slice none 0 0]) (t:=24) ?hr ?_;(case hd => rfl);(case hg => rfl);(case hr => first|(go_simp;done)|(go_simp;rfl));intro b_w hg w31 hbox hb;have b_h:=a_b.mk (hbox);have g_o:=a_b.mk ((by rw [hg];exact (a_g (lup_ HB.out)) : w.heap.size ≤ b_w));have b_U:=a_b.mk ((by rw [hg];exact (a_g (lup_ HB.out)) : w.heap.size ≤ b_w));replace b_a:=a_b.mk (Kd.a_B (rup_ b_a.out) hb);replace HB:=a_b.mk (a_m (lup_ HB.out) hb);clear hb hbox hg;obtain ⟨Ao32,co32,eo32⟩:=Kd.b_5 b_a.out;subst eo32;have f_N : w31.cell? ⟨b_w,0,none⟩ = some (.slice none 0 0):=(a_h b_h.out 0).trans rfl;have f_V:=a_p b_h.out 0)|((with_reducible refine a_D (f:=17) rfl ?_);refine b_n (some 13) rfl rfl Tryd.func17 (by kernel_rfl) rfl #[.agg #[.slice Ao32 t127.length co32],.int .i64 0,.int .i64 2] rfl (by (try simp only [List.map_toArray,List.map_cons,List.map_nil]);first|done|rfl|(simp only [List.length_drop,List.length_take];rfl)) ?_;(with_reducible refine (b_x.calls k _ _ t127 0 2 t132 t133 _ ?side1 ?side2 A2.out).mono ?_);(case side1 => refine (Kd.a_w (e:=56) (base:=w.heap.size) (ok:=fun k_ => True) (n:=t127.length) (c:=co32) ?_).2.2;exact (by (with_reducible repeat (first|apply Kd.a_I|apply Kd.a_J|apply Kd.a_F));exact (Kd.a_X (Kd.b_9 (p:=⟨b_w,0,none⟩) (Kd.b_I b_a.out b_h.out (by decide)) (fun _ hk => hk.2) (.slice Ao32 t127.length co32)) (fun _ h_ => h_.1))));(case side2 => exact (Kd.a_w b_a.out).2.1);rintro e w34 ⟨rfl,hb⟩;refine ⟨_,rfl,?_⟩;replace b_a:=a_b.mk (Kd.a_B (by (with_reducible repeat (first|apply Kd.a_I|apply Kd.a_J|apply Kd.a_F));exact (Kd.a_X (Kd.b_9 (p:=⟨b_w,0,none⟩) (Kd.b_I b_a.out b_h.out (by decide)) (fun _ hk => hk.2) (.slice Ao32 t127.length co32)) (fun _ h_ => h_.1))) hb);replace b_h:=a_b.mk (a_i (g:=b_w) (o:=.cells #[.slice Ao32 t127.length co32] 24 (0,0)) (by (with_reducible repeat (first|refine a_l ?_ _|refine a_j ?_|refine a_k ?_ _));refine b_p (cs:=#[.slice none 0 0]) ?_ 0 _ rfl;(with_reducible repeat (first|refine a_l ?_ _|refine a_j ?_|refine a_k ?_ _));exact b_h.out) hb);replace HB:=a_b.mk (a_m (by repeat (first|(with_reducible first|exact HB.out|apply a_f|apply a_c|apply a_e|refine a_d ?_ b_U.out)|exact HB.out)) hb);(try clear hb);(try clear hb2);(try clear hk);(try clear hi);have h_k : w34.cell? ⟨b_w,0,none⟩ = some (.slice Ao32 t127.length co32):=(a_h b_h.out 0).trans rfl;have h_r:=a_p b_h.out 0)|((with_reducible refine a_D (f:=20) rfl ?_);refine b_n (some 18) rfl rfl Tryd.func20 (by kernel_rfl) rfl #[.agg #[.slice Ao32 t127.length co32],.int .i64 2,.int .u32 15] rfl (by (try simp only [List.map_toArray,List.map_cons,List.map_nil]);first|done|rfl|(simp only [List.length_drop,List.length_take];rfl)) ?_;(with_reducible refine (b_Q.calls _ _ t127 2 15 t134 t137 _ ?side1 ?side2 ?side3 A3.out).mono ?_);(case side1 => repeat (first|exact (Kd.a_w b_a.out).2.2|(with_reducible refine Kd.a_M ?_ _)|(with_reducible refine Kd.a_N ?_ _)|(with_reducible refine Kd.a_2 ?_)));(case side2 => exact (Kd.a_w b_a.out).2.1);(case side3 => exact c_g.below HTAB_.out (by repeat (first|(with_reducible first|exact HB.out|apply a_f|apply a_c|apply a_e|refine a_d ?_ b_U.out)|exact HB.out)));rintro e w36 ⟨v135,rfl,ho0,hb⟩;refine ⟨_,rfl,?_⟩;have d_D:=a_b.mk (Kd.b_v ho0 (a_g (by repeat (first|(with_reducible first|exact HB.out|apply a_f|apply a_c|apply a_e|refine a_d ?_ b_U.out)|exact HB.out))));replace b_a:=a_b.mk (Kd.a_B (rup_ b_a.out) hb);replace b_h:=a_b.mk (a_i (bup_ b_h.out) hb);replace HB:=a_b.mk (a_m (by repeat (first|(with_reducible first|exact HB.out|apply a_f|apply a_c|apply a_e|refine a_d ?_ b_U.out)|exact HB.out)) hb);(try clear hb);(try clear hb2);(try clear hk);(try clear hi);(try clear ho0);obtain ⟨Ao37,co37,eo37⟩:=Kd.b_5 d_D.out;subst eo37))
  go_ret
  exact ⟨by first|rfl|(simp [a_r,a_s] <;> rfl)|(simp [*, a_r,a_s] <;> rfl),by repeat (first|(with_reducible first|exact HB.out|apply a_f|apply a_c|apply a_e|refine a_d ?_ b_U.out)|exact HB.out)⟩
 rw [if_pos c8] at H
 have c8b0 : ((t134.length : Int) == 4) = true:=beq_iff_eq.mpr c8
 have c8b1 : ((t134.length : Int) != 4) = false:=bne_eq_false_iff_eq.mpr c8
 clear c8
 by_cases c9 : 1 < (t134.length : Int)
 rotate_left
 ·rw [if_neg c9] at H
  exact absurd H (by simp)
 rw [if_pos c9] at H
 have c9b0 : decide (1 < (t134.length : Int)) = true:=decide_eq_true c9
 have c9b1 : decide (1 < t134.length) = true:=decide_eq_true (by omega)
 clear c9
 by_cases c10 : (rd t134 1) = 3
 rotate_left
 ·rw [if_neg c10] at H
  have c10b0 : ((rd t134 1) == 3) = false:=beq_eq_false_iff_ne.mpr c10
  have c10b1 : ((rd t134 1) != 3) = true:=bne_iff_ne.mpr c10
  obtain rfl:=Option.some.inj H
  go_enter Tryd.func10,Tryd.ntmps10
  go_wp2_with (first|((with_reducible refine a_D (f:=26) rfl ?_);refine b_n (some 8) rfl rfl Tryd.func26 (by kernel_rfl) rfl #[.int .i64 2,.int .i64 1,.int .i64 2] rfl (by (try simp only [List.map_toArray,List.map_cons,List.map_nil]);first|done|rfl|(simp only [List.length_drop,List.length_take];rfl)) ?_;(with_reducible refine (a_v.calls k 2 1 2 t127 t130 _ A1.out).mono ?_);rintro e w22 ⟨v128,rfl,ho0,hb⟩;refine ⟨_,rfl,?_⟩;have b_a:=a_b.mk (Kd.b_v ho0 (a_g (lup_ HB.out)));replace HB:=a_b.mk (a_m (lup_ HB.out) hb);(try clear hb);(try clear hb2);(try clear hk);(try clear hi);(try clear ho0))|((with_reducible refine a_L (N:=1) rfl ?_);(try (refine b_k (by rfl) ?_;dsimp only));refine a_G ?hg (N:=1) ?hd (cs:=#[.slice none 0 0]) (t:=24) ?hr ?_;(case hd => rfl);(case hg => rfl);(case hr => first|(go_simp;done)|(go_simp;rfl));intro b_w hg w23 hbox hb;have b_h:=a_b.mk (hbox);have g_o:=a_b.mk ((by rw [hg];exact (a_g (lup_ HB.out)) : w.heap.size ≤ b_w));have b_U:=a_b.mk ((by rw [hg];exact (a_g (lup_ HB.out)) : w.heap.size ≤ b_w));replace b_a:=a_b.mk (Kd.a_B (rup_ b_a.out) hb);replace HB:=a_b.mk (a_m (lup_ HB.out) hb);clear hb hbox hg;obtain ⟨Ao24,co24,eo24⟩:=Kd.b_5 b_a.out;subst eo24;have h_j : w23.cell? ⟨b_w,0,none⟩ = some (.slice none 0 0):=(a_h b_h.out 0).trans rfl;have h_q:=a_p b_h.out 0)|((with_reducible refine a_D (f:=17) rfl ?_);refine b_n (some 13) rfl rfl Tryd.func17 (by kernel_rfl) rfl #[.agg #[.slice Ao24 t127.length co24],.int .i64 0,.int .i64 2] rfl (by (try simp only [List.map_toArray,List.map_cons,List.map_nil]);first|done|rfl|(simp only [List.length_drop,List.length_take];rfl)) ?_;(with_reducible refine (b_x.calls k _ _ t127 0 2 t132 t133 _ ?side1 ?side2 A2.out).mono ?_);(case side1 => refine (Kd.a_w (e:=56) (base:=w.heap.size) (ok:=fun k_ => True) (n:=t127.length) (c:=co24) ?_).2.2;exact (by (with_reducible repeat (first|apply Kd.a_I|apply Kd.a_J|apply Kd.a_F));exact (Kd.a_X (Kd.b_9 (p:=⟨b_w,0,none⟩) (Kd.b_I b_a.out b_h.out (by decide)) (fun _ hk => hk.2) (.slice Ao24 t127.length co24)) (fun _ h_ => h_.1))));(case side2 => exact (Kd.a_w b_a.out).2.1);rintro e w26 ⟨rfl,hb⟩;refine ⟨_,rfl,?_⟩;replace b_a:=a_b.mk (Kd.a_B (by (with_reducible repeat (first|apply Kd.a_I|apply Kd.a_J|apply Kd.a_F));exact (Kd.a_X (Kd.b_9 (p:=⟨b_w,0,none⟩) (Kd.b_I b_a.out b_h.out (by decide)) (fun _ hk => hk.2) (.slice Ao24 t127.length co24)) (fun _ h_ => h_.1))) hb);replace b_h:=a_b.mk (a_i (g:=b_w) (o:=.cells #[.slice Ao24 t127.length co24] 24 (0,0)) (by (with_reducible repeat (first|refine a_l ?_ _|refine a_j ?_|refine a_k ?_ _));refine b_p (cs:=#[.slice none 0 0]) ?_ 0 _ rfl;(with_reducible repeat (first|refine a_l ?_ _|refine a_j ?_|refine a_k ?_ _));exact b_h.out) hb);replace HB:=a_b.mk (a_m (by repeat (first|(with_reducible first|exact HB.out|apply a_f|apply a_c|apply a_e|refine a_d ?_ b_U.out)|exact HB.out)) hb);(try clear hb);(try clear hb2);(try clear hk);(try clear hi);have i_W : w26.cell? ⟨b_w,0,none⟩ = some (.slice Ao24 t127.length co24):=(a_h b_h.out 0).trans rfl;have i_8:=a_p b_h.out 0)|((with_reducible refine a_D (f:=20) rfl ?_);refine b_n (some 18) rfl rfl Tryd.func20 (by kernel_rfl) rfl #[.agg #[.slice Ao24 t127.length co24],.int .i64 2,.int .u32 15] rfl (by (try simp only [List.map_toArray,List.map_cons,List.map_nil]);first|done|rfl|(simp only [List.length_drop,List.length_take];rfl)) ?_;(with_reducible refine (b_Q.calls _ _ t127 2 15 t134 t137 _ ?side1 ?side2 ?side3 A3.out).mono ?_);(case side1 => repeat (first|exact (Kd.a_w b_a.out).2.2|(with_reducible refine Kd.a_M ?_ _)|(with_reducible refine Kd.a_N ?_ _)|(with_reducible refine Kd.a_2 ?_)));(case side2 => exact (Kd.a_w b_a.out).2.1);(case side3 => exact c_g.below HTAB_.out (by repeat (first|(with_reducible first|exact HB.out|apply a_f|apply a_c|apply a_e|refine a_d ?_ b_U.out)|exact HB.out)));rintro e w28 ⟨v135,rfl,ho0,hb⟩;refine ⟨_,rfl,?_⟩;have d_D:=a_b.mk (Kd.b_v ho0 (a_g (by repeat (first|(with_reducible first|exact HB.out|apply a_f|apply a_c|apply a_e|refine a_d ?_ b_U.out)|exact HB.out))));replace b_a:=a_b.mk (Kd.a_B (rup_ b_a.out) hb);replace b_h:=a_b.mk (a_i (bup_ b_h.out) hb);replace HB:=a_b.mk (a_m (by repeat (first|(with_reducible first|exact HB.out|apply a_f|apply a_c|apply a_e|refine a_d ?_ b_U.out)|exact HB.out)) hb);(try clear hb);(try clear hb2);(try clear hk);(try clear hi);(try clear ho0);obtain ⟨Ao29,co29,eo29⟩:=Kd.b_5 d_D.out;subst eo29;have p138 : 0 ≤ (1 : Int):=(by omega);have q138 : 1 < (t134.length : Int):=of_decide_eq_true (by first|(with_reducible assumption)|assumption);obtain ⟨ad138,e138,e_c⟩:=Kd.e_B (Kd.a_w d_D.out).2.2 1 p138 q138;cases e138;(try simp only [show (1 : Int).toNat = 1 from rfl,Nat.reduceMul,Nat.reduceEqDiff,Go.Addr.add, ↓reduceIte] at e_c);have qi138 : (1 < t134.length) = True:=eq_true (by omega);(try rw [show ((1 : Int)).toNat = 1 from rfl] at e_c);replace p138:=eq_true p138;replace q138:=eq_true q138))
  go_ret
  exact ⟨by first|rfl|(simp [a_r,a_s] <;> rfl)|(simp [*, a_r,a_s] <;> rfl),by repeat (first|(with_reducible first|exact HB.out|apply a_f|apply a_c|apply a_e|refine a_d ?_ b_U.out)|exact HB.out)⟩
 rw [if_pos c10] at H
 have c10b0 : ((rd t134 1) == 3) = true:=beq_iff_eq.mpr c10
 have c10b1 : ((rd t134 1) != 3) = false:=bne_eq_false_iff_eq.mpr c10
 clear c10
 replace H:=Option.bind_eq_some_iff.mp H
 obtain ⟨t139,A110,H⟩:=H
 replace H : (some (t139 == 12)) = some r:=H
 have A11:=a_b.mk A110
 clear A110
 obtain rfl:=Option.some.inj H
 go_enter Tryd.func10,Tryd.ntmps10
 go_wp2_with (first|((with_reducible refine a_D (f:=26) rfl ?_);refine b_n (some 8) rfl rfl Tryd.func26 (by kernel_rfl) rfl #[.int .i64 2,.int .i64 1,.int .i64 2] rfl (by (try simp only [List.map_toArray,List.map_cons,List.map_nil]);first|done|rfl|(simp only [List.length_drop,List.length_take];rfl)) ?_;(with_reducible refine (a_v.calls k 2 1 2 t127 t130 _ A1.out).mono ?_);rintro e w12 ⟨v128,rfl,ho0,hb⟩;refine ⟨_,rfl,?_⟩;have b_a:=a_b.mk (Kd.b_v ho0 (a_g (lup_ HB.out)));replace HB:=a_b.mk (a_m (lup_ HB.out) hb);(try clear hb);(try clear hb2);(try clear hk);(try clear hi);(try clear ho0))|((with_reducible refine a_L (N:=1) rfl ?_);(try (refine b_k (by rfl) ?_;dsimp only));refine a_G ?hg (N:=1) ?hd (cs:=#[.slice none 0 0]) (t:=24) ?hr ?_;(case hd => rfl);(case hg => rfl);(case hr => first|(go_simp;done)|(go_simp;rfl));intro b_w hg w13 hbox hb;have b_h:=a_b.mk (hbox);have g_o:=a_b.mk ((by rw [hg];exact (a_g (lup_ HB.out)) : w.heap.size ≤ b_w));have b_U:=a_b.mk ((by rw [hg];exact (a_g (lup_ HB.out)) : w.heap.size ≤ b_w));replace b_a:=a_b.mk (Kd.a_B (rup_ b_a.out) hb);replace HB:=a_b.mk (a_m (lup_ HB.out) hb);clear hb hbox hg;obtain ⟨Ao14,co14,eo14⟩:=Kd.b_5 b_a.out;subst eo14;have e_W : w13.cell? ⟨b_w,0,none⟩ = some (.slice none 0 0):=(a_h b_h.out 0).trans rfl;have e_Y:=a_p b_h.out 0)|((with_reducible refine a_D (f:=17) rfl ?_);refine b_n (some 13) rfl rfl Tryd.func17 (by kernel_rfl) rfl #[.agg #[.slice Ao14 t127.length co14],.int .i64 0,.int .i64 2] rfl (by (try simp only [List.map_toArray,List.map_cons,List.map_nil]);first|done|rfl|(simp only [List.length_drop,List.length_take];rfl)) ?_;(with_reducible refine (b_x.calls k _ _ t127 0 2 t132 t133 _ ?side1 ?side2 A2.out).mono ?_);(case side1 => refine (Kd.a_w (e:=56) (base:=w.heap.size) (ok:=fun k_ => True) (n:=t127.length) (c:=co14) ?_).2.2;exact (by (with_reducible repeat (first|apply Kd.a_I|apply Kd.a_J|apply Kd.a_F));exact (Kd.a_X (Kd.b_9 (p:=⟨b_w,0,none⟩) (Kd.b_I b_a.out b_h.out (by decide)) (fun _ hk => hk.2) (.slice Ao14 t127.length co14)) (fun _ h_ => h_.1))));(case side2 => exact (Kd.a_w b_a.out).2.1);rintro e w16 ⟨rfl,hb⟩;refine ⟨_,rfl,?_⟩;replace b_a:=a_b.mk (Kd.a_B (by (with_reducible repeat (first|apply Kd.a_I|apply Kd.a_J|apply Kd.a_F));exact (Kd.a_X (Kd.b_9 (p:=⟨b_w,0,none⟩) (Kd.b_I b_a.out b_h.out (by decide)) (fun _ hk => hk.2) (.slice Ao14 t127.length co14)) (fun _ h_ => h_.1))) hb);replace b_h:=a_b.mk (a_i (g:=b_w) (o:=.cells #[.slice Ao14 t127.length co14] 24 (0,0)) (by (with_reducible repeat (first|refine a_l ?_ _|refine a_j ?_|refine a_k ?_ _));refine b_p (cs:=#[.slice none 0 0]) ?_ 0 _ rfl;(with_reducible repeat (first|refine a_l ?_ _|refine a_j ?_|refine a_k ?_ _));exact b_h.out) hb);replace HB:=a_b.mk (a_m (by repeat (first|(with_reducible first|exact HB.out|apply a_f|apply a_c|apply a_e|refine a_d ?_ b_U.out)|exact HB.out)) hb);(try clear hb);(try clear hb2);(try clear hk);(try clear hi);have k_C : w16.cell? ⟨b_w,0,none⟩ = some (.slice Ao14 t127.length co14):=(a_h b_h.out 0).trans rfl;have k_1:=a_p b_h.out 0)|((with_reducible refine a_D (f:=20) rfl ?_);refine b_n (some 18) rfl rfl Tryd.func20 (by kernel_rfl) rfl #[.agg #[.slice Ao14 t127.length co14],.int .i64 2,.int .u32 15] rfl (by (try simp only [List.map_toArray,List.map_cons,List.map_nil]);first|done|rfl|(simp only [List.length_drop,List.length_take];rfl)) ?_;(with_reducible refine (b_Q.calls _ _ t127 2 15 t134 t137 _ ?side1 ?side2 ?side3 A3.out).mono ?_);(case side1 => repeat (first|exact (Kd.a_w b_a.out).2.2|(with_reducible refine Kd.a_M ?_ _)|(with_reducible refine Kd.a_N ?_ _)|(with_reducible refine Kd.a_2 ?_)));(case side2 => exact (Kd.a_w b_a.out).2.1);(case side3 => exact c_g.below HTAB_.out (by repeat (first|(with_reducible first|exact HB.out|apply a_f|apply a_c|apply a_e|refine a_d ?_ b_U.out)|exact HB.out)));rintro e w18 ⟨v135,rfl,ho0,hb⟩;refine ⟨_,rfl,?_⟩;have d_D:=a_b.mk (Kd.b_v ho0 (a_g (by repeat (first|(with_reducible first|exact HB.out|apply a_f|apply a_c|apply a_e|refine a_d ?_ b_U.out)|exact HB.out))));replace b_a:=a_b.mk (Kd.a_B (rup_ b_a.out) hb);replace b_h:=a_b.mk (a_i (bup_ b_h.out) hb);replace HB:=a_b.mk (a_m (by repeat (first|(with_reducible first|exact HB.out|apply a_f|apply a_c|apply a_e|refine a_d ?_ b_U.out)|exact HB.out)) hb);(try clear hb);(try clear hb2);(try clear hk);(try clear hi);(try clear ho0);obtain ⟨Ao19,co19,eo19⟩:=Kd.b_5 d_D.out;subst eo19;have p138 : 0 ≤ (1 : Int):=(by omega);have q138 : 1 < (t134.length : Int):=of_decide_eq_true (by first|(with_reducible assumption)|assumption);obtain ⟨ad138,e138,e_c⟩:=Kd.e_B (Kd.a_w d_D.out).2.2 1 p138 q138;cases e138;(try simp only [show (1 : Int).toNat = 1 from rfl,Nat.reduceMul,Nat.reduceEqDiff,Go.Addr.add, ↓reduceIte] at e_c);have qi138 : (1 < t134.length) = True:=eq_true (by omega);(try rw [show ((1 : Int)).toNat = 1 from rfl] at e_c);replace p138:=eq_true p138;replace q138:=eq_true q138;have h_f : w18.cell? ⟨b_w,0,none⟩ = some (.slice Ao14 t127.length co14):=(a_h b_h.out 0).trans rfl;have h_m:=a_p b_h.out 0)|(go_at_call 29;(with_reducible refine (b_u.calls _ _ t127 1 t139 _ ?side1 ?side2 A11.out).mono ?_);(case side1 => repeat (first|exact (Kd.a_w b_a.out).2.2|(with_reducible refine Kd.a_M ?_ _)|(with_reducible refine Kd.a_N ?_ _)|(with_reducible refine Kd.a_2 ?_)));(case side2 => exact (Kd.a_w b_a.out).2.1);rintro e w21 ⟨rfl,hb⟩;replace b_a:=a_b.mk (Kd.a_B (rup_ b_a.out) hb);replace d_D:=a_b.mk (Kd.a_B (rup_ d_D.out) hb);replace b_h:=a_b.mk (a_i (bup_ b_h.out) hb);replace HB:=a_b.mk (a_m (by repeat (first|(with_reducible first|exact HB.out|apply a_f|apply a_c|apply a_e|refine a_d ?_ b_U.out)|exact HB.out)) hb);(try clear hb);(try clear hb2);(try clear hk);(try clear hi)))
 go_ret
 exact ⟨by first|rfl|(simp [a_r,a_s] <;> rfl)|(simp [*, a_r,a_s] <;> rfl),by repeat (first|(with_reducible first|exact HB.out|apply a_f|apply a_c|apply a_e|refine a_d ?_ b_U.out)|exact HB.out)⟩
end Go.Proofs.YtcpfcehfgenljaaDoor.Q
end
section
namespace Go.Proofs.YtcpfcehfgenljaaDoor.Q
open Go.RowKit Go.Proofs.YtcpfcehfgenljaaDoorW.PrintWords Go.Proofs.YtcpfcehfgenljaaDoorW.PrintLast Go.Proofs.YtcpfcehfgenljaaDoorW.PrintMore
set_option linter.unusedVariables false
set_option linter.unusedSimpArgs false
def b_o.f (l0_0 : List (S56)) : Option ((List (S56))):=(some (([] : List (S56)) : List (S56))).bind fun y142 => (if y142.length + l0_0.length < 8796093022208 then (some (y142 ++ l0_0)) else (none))
set_option maxHeartbeats 8000000 in
set_option maxRecDepth 100000 in
theorem b_o.calls (A0_0 : Option Addr) (c0_0 : Nat) (l0_0 : List (S56)) (r : List (S56)) (w : World) (hr0_0 : Kd.C k56 w A0_0 l0_0.length l0_0) (hc0_0 : l0_0.length ≤ c0_0) (h : b_o.f l0_0 = some r) :
 Calls Tryd.prog 37 #[.agg #[.slice A0_0 l0_0.length c0_0]] w fun e w' => ∃ v0_ : Value,e = .returned (.agg #[v0_]) ∧ Kd.R k56 56 w' w.heap.size (fun _ => True) v0_ r ∧ Below w.heap.size w w':=by
 have hu24:=Tryd.underlying24
 have b_V:=a_b.mk hr0_0
 have c_l:=a_b.mk hc0_0
 clear hr0_0 hc0_0
 have HB:=a_b.mk (Below.refl w.heap.size w)
 have H : ((some (([] : List (S56)) : List (S56))).bind fun y142 => (if y142.length + l0_0.length < 8796093022208 then (some (y142 ++ l0_0)) else (none))) = some r:=h
 clear h
 obtain ⟨y142,hy142⟩ : ∃ y_ : List (S56),y_ = (([] : List (S56))):=⟨_,rfl⟩
 replace H : (if y142.length + l0_0.length < 8796093022208 then (some (y142 ++ l0_0)) else (none)) = some r:=by first|(rw [hy142];with_reducible exact H)|(have H2_:=(Option.bind_some _ _).symm.trans H;rw [hy142];with_reducible exact H2_)|(have H2_:=(Option.bind_some _ _).symm.trans H;with_reducible exact H2_)|with_reducible exact H|(rw [hy142];exact H)|exact H
 have Ny142:=a_b.mk hy142
 clear hy142
 by_cases c2 : y142.length + l0_0.length < 8796093022208
 rotate_left
 ·rw [if_neg c2] at H
  exact absurd H (by simp)
 rw [if_pos c2] at H
 have LMc2:=a_b.mk c2
 clear c2
 obtain ⟨y145,hy145⟩ : ∃ y_ : List (S56),y_ = (y142 ++ l0_0):=⟨_,rfl⟩
 replace H : (some y145) = some r:=by first|(rw [hy145];with_reducible exact H)|(have H2_:=(Option.bind_some _ _).symm.trans H;rw [hy145];with_reducible exact H2_)|(have H2_:=(Option.bind_some _ _).symm.trans H;with_reducible exact H2_)|with_reducible exact H|(rw [hy145];exact H)|exact H
 have Ny145:=a_b.mk hy145
 clear hy145
 obtain rfl:=Option.some.inj H
 go_enter Tryd.func37,Tryd.ntmps37
 go_wp2_with (first|((with_reducible refine a_L (N:=1) rfl ?_);refine a_G ?hg (N:=1) ?hd (cs:=#[.slice A0_0 l0_0.length c0_0]) (t:=24) ?hr ?_;(case hd => rfl);(case hg => rfl);(case hr => first|(go_simp;done)|(go_simp;rfl));intro g_y hg w3 hbox hb;have d_Z:=a_b.mk (hbox);have l_8:=a_b.mk ((by rw [hg];exact (a_g (lup_ HB.out)) : w.heap.size ≤ g_y));have e_9:=a_b.mk ((by rw [hg];exact (a_g (lup_ HB.out)) : w.heap.size ≤ g_y));replace HB:=a_b.mk (a_m (lup_ HB.out) hb);clear hb hbox hg)|((with_reducible refine a_L (N:=2) rfl ?_);refine a_G ?hg (N:=2) ?hd (cs:=#[.slice none 0 0]) (t:=24) ?hr ?_;(case hd => rfl);(case hg => rfl);(case hr => first|(go_simp;done)|(go_simp;rfl));intro f_k hg w4 hbox hb;have e_J:=a_b.mk (hbox);have l_9:=a_b.mk ((by rw [hg];exact (a_g (by repeat (first|(with_reducible first|exact HB.out|apply a_f|apply a_c|apply a_e|refine a_d ?_ e_9.out)|exact HB.out))) : w.heap.size ≤ f_k));have g_I:=a_b.mk ((by rw [hg];exact (a_g (by repeat (first|(with_reducible first|exact HB.out|apply a_f|apply a_c|apply a_e|refine a_d ?_ e_9.out)|exact HB.out))) : w.heap.size ≤ f_k));have g_P:=a_b.mk ((by rw [hg];exact Nat.ne_of_lt (a_K (bup_ d_Z.out)) : g_y ≠ f_k));have g_Q:=a_b.mk ((by rw [hg];exact Nat.ne_of_gt (a_K (bup_ d_Z.out)) : f_k ≠ g_y));replace d_Z:=a_b.mk (a_i (bup_ d_Z.out) hb);replace HB:=a_b.mk (a_m (by repeat (first|(with_reducible first|exact HB.out|apply a_f|apply a_c|apply a_e|refine a_d ?_ e_9.out)|exact HB.out)) hb);clear hb hbox hg)|((with_reducible refine a_L (N:=3) rfl ?_);refine Kd.k_u k56 _ 56 ?hg (N:=3) ?hd (xs:=([] : List (S56))) (inner:=[]) (ok:=fun _ => True) (okp:=fun _ => True) ?hr ?hp (fun _ hk => hk) trivial (Below.refl _ _) (Nat.le_refl _) (by simp) ?_;(case hd => rfl);(case hg => rfl);(case hr => first|(go_simp;done)|(go_simp;rfl));(case hp => exact (Reps.none _ _));intro v143 w5 ho6 hb hg_ hnew_;clear hg_ hnew_;(first|rw [← Ny142.out] at ho6|(simp only [Int.reduceToNat] at ho6;rw [← Ny142.out] at ho6));have h_V:=a_b.mk (Kd.b_v ho6 (a_g (by repeat (first|(with_reducible first|exact HB.out|apply a_f|apply a_c|apply a_e|refine a_d ?_ e_9.out|refine a_d ?_ g_I.out)|exact HB.out))));replace d_Z:=a_b.mk (a_i (bup_ d_Z.out) hb);replace e_J:=a_b.mk (a_i (bup_ e_J.out) hb);replace HB:=a_b.mk (a_m (by repeat (first|(with_reducible first|exact HB.out|apply a_f|apply a_c|apply a_e|refine a_d ?_ e_9.out|refine a_d ?_ g_I.out)|exact HB.out)) hb);clear hb ho6;have hnb7:=g_P.out;have hnc7:=g_Q.out;have f_l : w5.cell? ⟨g_y,0,none⟩ = some (.slice A0_0 l0_0.length c0_0):=(a_h d_Z.out 0).trans rfl;have f_m:=a_p d_Z.out 0)|((with_reducible refine f_j (b:=.append) (xs:=#[.tmp 3,.tmp 5]) rfl ?_);at_builtin;refine Kd.e_N k56 (w0:=w) w.heap.size rfl (.tmp 3) (.tmp 5) 22 56 (.agg #[(.int .i64 0),(.int .i64 0)]) 16 rfl Tryd.underlying22 h_v rfl (by decide) (by omega) v143 y142 l0_0 _ _ _ (fun _ => True) (fun _ => False) rfl rfl ?aO ?aR (fun _ _ h => h) (fun _ h => h.elim) ?aF ?aB ?aS ?aL ?_;(case aR => repeat (first|exact (Kd.a_5 b_V.out HB.out)|(with_reducible refine Kd.a_M ?_ _)|(with_reducible refine Kd.a_N ?_ _)|(with_reducible refine Kd.a_2 ?_)));(case aB => exact (by repeat (first|(with_reducible first|exact HB.out|apply a_f|apply a_c|apply a_e|refine a_d ?_ e_9.out|refine a_d ?_ g_I.out)|exact HB.out)));(case aF => exact (fun _ _ => trivial));(case aO => exact (rup_ h_V.out));(case aS => exact (a_g (by repeat (first|(with_reducible first|exact HB.out|apply a_f|apply a_c|apply a_e|refine a_d ?_ e_9.out|refine a_d ?_ g_I.out)|exact HB.out))));(case aL => have:=LMc2.out;omega);intro v146 w9 ho hb hg hat;rw [← Ny145.out] at ho;have j_z:=a_b.mk (ho);replace d_Z:=a_b.mk (d_x (g:=g_y) (o:=.cells #[.slice A0_0 l0_0.length c0_0] 24 (0,0)) (bup_ d_Z.out) hg (Kd.R_ne h_V.out d_Z.out (by decide)));replace e_J:=a_b.mk (d_x (g:=f_k) (o:=.cells #[.slice none 0 0] 24 (0,0)) (bup_ e_J.out) hg (Kd.R_ne h_V.out e_J.out (by decide)));replace HB:=a_b.mk (hb);clear h_V ho hb hg hat;obtain ⟨Ao10,co10,eo10⟩:=Kd.b_5 j_z.out;subst eo10;have f_H : w9.cell? ⟨f_k,0,none⟩ = some (.slice none 0 0):=(a_h e_J.out 0).trans rfl;have f_P:=a_p e_J.out 0))
 refine bodyPost_ret (results_cell_row rfl _ _ f_k 24 #[.slice Ao10 y145.length co10] (0,0) _ rfl (by (with_reducible repeat (first|refine a_l ?_ _|refine a_j ?_|refine a_k ?_ _));refine b_p (cs:=#[.slice none 0 0]) ?_ 0 _ rfl;(with_reducible repeat (first|refine a_l ?_ _|refine a_j ?_|refine a_k ?_ _));exact e_J.out) Tryd.underlying24 rfl (by kernel_rfl)) rfl ?_
 exact ⟨_,by first|rfl|(simp [a_r,a_s] <;> rfl)|(simp [*, a_r,a_s] <;> rfl),by (with_reducible repeat (first|apply Kd.a_I|apply Kd.a_J|apply Kd.a_F));exact Kd.a_X (Kd.b_9 (p:=⟨f_k,0,none⟩) (Kd.b_I j_z.out e_J.out (by decide)) (fun _ hk => hk.2) (.slice Ao10 y145.length co10)) (fun _ hk => trivial),by repeat (first|(with_reducible first|exact HB.out|apply a_f|apply a_c|apply a_e|refine a_d ?_ e_9.out|refine a_d ?_ g_I.out)|exact HB.out)⟩
end Go.Proofs.YtcpfcehfgenljaaDoor.Q
end
section
namespace Go.Proofs.YtcpfcehfgenljaaDoor.Q
open Go.RowKit Go.Proofs.YtcpfcehfgenljaaDoorW.PrintWords Go.Proofs.YtcpfcehfgenljaaDoorW.PrintLast Go.Proofs.YtcpfcehfgenljaaDoorW.PrintMore
set_option linter.unusedVariables false
set_option linter.unusedSimpArgs false
def a_u.f (l0_0 : List (S56)) : Option ((List (S56))):=if 0 ≤ (mn (l0_0.length : Int) 9) then (if (mn (l0_0.length : Int) 9) ≤ (l0_0.length : Int) then ((b_o.f (l0_0.take ((mn (l0_0.length : Int) 9) : Int).toNat)).bind fun t154 => (some t154)) else (none)) else (none)
set_option maxHeartbeats 8000000 in
set_option maxRecDepth 100000 in
theorem a_u.calls (A0_0 : Option Addr) (c0_0 : Nat) (l0_0 : List (S56)) (r : List (S56)) (w : World) (hr0_0 : Kd.C k56 w A0_0 l0_0.length l0_0) (hc0_0 : l0_0.length ≤ c0_0) (h : a_u.f l0_0 = some r) :
 Calls Tryd.prog 11 #[.agg #[.slice A0_0 l0_0.length c0_0]] w fun e w' => ∃ v0_ : Value,e = .returned (.agg #[v0_]) ∧ Kd.R k56 56 w' w.heap.size (fun _ => True) v0_ r ∧ Below w.heap.size w w':=by
 have hu24:=Tryd.underlying24
 have b_V:=a_b.mk hr0_0
 have c_l:=a_b.mk hc0_0
 clear hr0_0 hc0_0
 have HB:=a_b.mk (Below.refl w.heap.size w)
 have H : (if 0 ≤ (mn (l0_0.length : Int) 9) then (if (mn (l0_0.length : Int) 9) ≤ (l0_0.length : Int) then ((b_o.f (l0_0.take ((mn (l0_0.length : Int) 9) : Int).toNat)).bind fun t154 => (some t154)) else (none)) else (none)) = some r:=h
 clear h
 obtain ⟨ji2,hji2⟩ : ∃ j_ : Int,(mn (l0_0.length : Int) 9) = j_:=⟨_,rfl⟩
 replace H : (if 0 ≤ (ji2) then (if (ji2) ≤ (l0_0.length : Int) then ((b_o.f (l0_0.take ((ji2) : Int).toNat)).bind fun t154 => (some t154)) else (none)) else (none)) = some r:=by first|(rw [hji2] at H;exact H)|(simp only [hji2] at H ⊢; exact H)
 (try (have hji2h : ji2 ≤ 9:=by (rw [← hji2];unfold mn;(repeat' split) <;> omega)))
 (try (have hji2g : ji2 ≤ 64:=by omega))
 (try (have hji2l : 0 ≤ ji2:=by (rw [← hji2];unfold mn;(repeat' split) <;> omega)))
 (try (have hji2m : 0 ≤ ji2:=by omega))
 have hji2_ : (if 9 < (l0_0.length : Int) then 9 else (l0_0.length : Int)) = ji2:=hji2
 by_cases c3 : 0 ≤ (ji2)
 rotate_left
 ·rw [if_neg c3] at H
  exact absurd H (by simp)
 rw [if_pos c3] at H
 have c3b0:=eq_true c3
 have c3b1 : decide (0 ≤ (ji2)) = true:=decide_eq_true c3
 clear c3
 by_cases c4 : (ji2) ≤ (l0_0.length : Int)
 rotate_left
 ·rw [if_neg c4] at H
  exact absurd H (by simp)
 rw [if_pos c4] at H
 have c4b0:=eq_true c4
 have c4b1 : decide ((ji2) ≤ (l0_0.length : Int)) = true:=decide_eq_true c4
 clear c4
 obtain ⟨y150,hy150⟩ : ∃ y_ : List (S56),y_ = (l0_0.take ((ji2) : Int).toNat):=⟨_,rfl⟩
 replace H : ((b_o.f y150).bind fun t154 => (some t154)) = some r:=by first|(rw [hy150];with_reducible exact H)|(have H2_:=(Option.bind_some _ _).symm.trans H;rw [hy150];with_reducible exact H2_)|(have H2_:=(Option.bind_some _ _).symm.trans H;with_reducible exact H2_)|with_reducible exact H|(rw [hy150];exact H)|exact H
 have Ny150:=a_b.mk hy150
 clear hy150
 replace H:=Option.bind_eq_some_iff.mp H
 obtain ⟨t154,A50,H⟩:=H
 replace H : (some t154) = some r:=H
 have A5:=a_b.mk A50
 clear A50
 obtain rfl:=Option.some.inj H
 go_enter Tryd.func11,Tryd.ntmps11
 go_wp2_with (first|((with_reducible refine a_L (N:=1) rfl ?_);refine a_G ?hg (N:=1) ?hd (cs:=#[.slice A0_0 l0_0.length c0_0]) (t:=24) ?hr ?_;(case hd => rfl);(case hg => rfl);(case hr => first|(go_simp;done)|(go_simp;rfl));intro g_9 hg w6 hbox hb;have e_8:=a_b.mk (hbox);have m_a:=a_b.mk ((by rw [hg];exact (a_g (lup_ HB.out)) : w.heap.size ≤ g_9));have g_n:=a_b.mk ((by rw [hg];exact (a_g (lup_ HB.out)) : w.heap.size ≤ g_9));replace HB:=a_b.mk (a_m (lup_ HB.out) hb);clear hb hbox hg)|((with_reducible refine a_L (N:=2) rfl ?_);refine a_G ?hg (N:=2) ?hd (cs:=#[.slice none 0 0]) (t:=24) ?hr ?_;(case hd => rfl);(case hg => rfl);(case hr => first|(go_simp;done)|(go_simp;rfl));intro f_F hg w7 hbox hb;have g_l:=a_b.mk (hbox);have m_b:=a_b.mk ((by rw [hg];exact (a_g (by repeat (first|(with_reducible first|exact HB.out|apply a_f|apply a_c|apply a_e|refine a_d ?_ g_n.out)|exact HB.out))) : w.heap.size ≤ f_F));have i_E:=a_b.mk ((by rw [hg];exact (a_g (by repeat (first|(with_reducible first|exact HB.out|apply a_f|apply a_c|apply a_e|refine a_d ?_ g_n.out)|exact HB.out))) : w.heap.size ≤ f_F));have g_R:=a_b.mk ((by rw [hg];exact Nat.ne_of_lt (a_K (bup_ e_8.out)) : g_9 ≠ f_F));have g_S:=a_b.mk ((by rw [hg];exact Nat.ne_of_gt (a_K (bup_ e_8.out)) : f_F ≠ g_9));replace e_8:=a_b.mk (a_i (bup_ e_8.out) hb);replace HB:=a_b.mk (a_m (by repeat (first|(with_reducible first|exact HB.out|apply a_f|apply a_c|apply a_e|refine a_d ?_ g_n.out)|exact HB.out)) hb);clear hb hbox hg;have hnb8:=g_R.out;have hnc8:=g_S.out;have j_P : w7.cell? ⟨g_9,0,none⟩ = some (.slice A0_0 l0_0.length c0_0):=(a_h e_8.out 0).trans rfl;have j_S:=a_p e_8.out 0;have q10 : ((ji2) : Int) ≤ ((l0_0.length : Int) : Int):=of_decide_eq_true (by first|(with_reducible assumption)|assumption);obtain ⟨i010,j_T,_,hsz10,_⟩:=info_parts h_v;have hroom10 : l0_0.length ≤ c0_0:=c_l.out;have hC10 : Kd.C k56 _ A0_0 l0_0.length l0_0:=b_V.out;have hcut10:=j_I (P:=Tryd.prog) 22 56 .i64 Tryd.underlying22 j_T A0_0 l0_0.length c0_0 (ji2) (of_decide_eq_true (by first|(with_reducible assumption)|assumption)) q10 hroom10;have hr10:=Kd.j_u (m:=((ji2) : Int).toNat) hC10 (by omega);have hy10 : y150.length = ((ji2) : Int).toNat:=(by rw [Ny150.out,List.length_take];omega);rw [← Ny150.out] at hr10;rw [← hy10] at hcut10;have k_t:=a_b.mk hr10;have k_s:=a_b.mk (show y150.length ≤ c0_0 from by omega);clear hr10 hC10 hroom10 j_T hsz10;have KY10:=a_b.mk hy10;clear hy10;replace q10:=eq_true q10)|((with_reducible refine a_D (f:=37) rfl ?_);refine b_n (some 11) rfl rfl Tryd.func37 (by kernel_rfl) rfl #[.agg #[.slice A0_0 y150.length c0_0]] rfl (by (try simp only [List.map_toArray,List.map_cons,List.map_nil]);first|done|rfl|(simp only [List.length_drop,List.length_take];rfl)) ?_;(with_reducible refine (b_o.calls _ _ y150 t154 _ ?side1 ?side2 A5.out).mono ?_);(case side1 => repeat (first|exact (Kd.a_5 k_t.out HB.out)|(with_reducible refine Kd.a_M ?_ _)|(with_reducible refine Kd.a_N ?_ _)|(with_reducible refine Kd.a_2 ?_)));(case side2 => exact k_s.out);rintro e w11 ⟨v155,rfl,ho0,hb⟩;refine ⟨_,rfl,?_⟩;have j_A:=a_b.mk (Kd.b_v ho0 (a_g (by repeat (first|(with_reducible first|exact HB.out|apply a_f|apply a_c|apply a_e|refine a_d ?_ g_n.out|refine a_d ?_ i_E.out)|exact HB.out))));replace e_8:=a_b.mk (a_i (bup_ e_8.out) hb);replace g_l:=a_b.mk (a_i (bup_ g_l.out) hb);replace HB:=a_b.mk (a_m (by repeat (first|(with_reducible first|exact HB.out|apply a_f|apply a_c|apply a_e|refine a_d ?_ g_n.out|refine a_d ?_ i_E.out)|exact HB.out)) hb);(try clear hb);(try clear hb2);(try clear hk);(try clear hi);(try clear ho0);obtain ⟨Ao12,co12,eo12⟩:=Kd.b_5 j_A.out;subst eo12;have k_B : w11.cell? ⟨f_F,0,none⟩ = some (.slice none 0 0):=(a_h g_l.out 0).trans rfl;have k_0:=a_p g_l.out 0))
 refine bodyPost_ret (results_cell_row rfl _ _ f_F 24 #[.slice Ao12 t154.length co12] (0,0) _ rfl (by (with_reducible repeat (first|refine a_l ?_ _|refine a_j ?_|refine a_k ?_ _));refine b_p (cs:=#[.slice none 0 0]) ?_ 0 _ rfl;(with_reducible repeat (first|refine a_l ?_ _|refine a_j ?_|refine a_k ?_ _));exact g_l.out) Tryd.underlying24 rfl (by kernel_rfl)) rfl ?_
 exact ⟨_,by first|rfl|(simp [a_r,a_s] <;> rfl)|(simp only [← hji2];first|rfl|(simp [a_r,a_s] <;> rfl))|(simp [*, a_r,a_s] <;> rfl),by (with_reducible repeat (first|apply Kd.a_I|apply Kd.a_J|apply Kd.a_F));exact Kd.a_X (Kd.b_9 (p:=⟨f_F,0,none⟩) (Kd.b_I j_A.out g_l.out (by decide)) (fun _ hk => hk.2) (.slice Ao12 t154.length co12)) (fun _ hk => trivial),by repeat (first|(with_reducible first|exact HB.out|apply a_f|apply a_c|apply a_e|refine a_d ?_ g_n.out|refine a_d ?_ i_E.out)|exact HB.out)⟩
end Go.Proofs.YtcpfcehfgenljaaDoor.Q
end
section
namespace Go.Proofs.YtcpfcehfgenljaaDoor.Q
open Go.RowKit Go.Proofs.YtcpfcehfgenljaaDoorW.PrintWords Go.Proofs.YtcpfcehfgenljaaDoorW.PrintLast Go.Proofs.YtcpfcehfgenljaaDoorW.PrintMore
set_option linter.unusedVariables false
set_option linter.unusedSimpArgs false
attribute [local go_sem high] h_0
def a_W.l0 : Nat → List (S56) → List (S56) → Int → Int → Option (Bool)
 | 0,_,_,_,_ => none
 | k + 1,x0,x1,x12,x13 => if x13 < x12 then (if 0 ≤ x13 then (if x13 < (x0.length : Int) then (if x13 < (x1.length : Int) then (if (!(((a_n x0 x13).f0) == ((a_n x1 x13).f0)) || (!(((a_n x0 x13).f1) == ((a_n x1 x13).f1)))) = true then (some false) else (a_W.l0 k x0 x1 x12 (wrap64 (x13 + 1)))) else (none)) else (none)) else (none)) else (some true)
def a_W.f (k : Nat) (l0 : List (S56)) (l1 : List (S56)) : Option (Bool):=if (l0.length : Int) = (l1.length : Int) then (a_W.l0 k l0 l1 (l0.length : Int) 0) else (some false)
theorem a_W.c_n : ∀ k,(∀ y0 y1 y2 y3,LeO (a_W.l0 k y0 y1 y2 y3) (a_W.l0 (k + 1) y0 y1 y2 y3))
 | 0 => fun _ _ _ _ r h => by simp [a_W.l0] at h
 | k + 1 => by
  have ih0:=a_W.c_n k
  ·intro y0 y1 y2 y3
   unfold a_W.l0
   repeat' first
   | (with_reducible exact ih0 _ _ _ _)
   | (with_reducible exact LeO.refl _)
   | (with_reducible exact LeO.none _)
   | (with_reducible refine LeO.ite ?_ ?_)
   | (with_reducible refine LeO.bind ?_ (fun _ => ?_))
   | exact ih0 _ _ _ _
   | exact LeO.none _
   | refine LeO.ite ?_ ?_
   | refine LeO.bind ?_ (fun _ => ?_)
theorem a_W.mono : ∀ a0 a1 k,LeO (a_W.f k a0 a1) (a_W.f (k + 1) a0 a1):=by
 intro a0 a1 k
 have ih0:=a_W.c_n k
 unfold a_W.f
 repeat' first
  | (with_reducible exact ih0 _ _ _ _)
  | (with_reducible exact LeO.refl _)
  | (with_reducible exact LeO.none _)
  | (with_reducible refine LeO.ite ?_ ?_)
  | (with_reducible refine LeO.bind ?_ (fun _ => ?_))
  | exact ih0 _ _ _ _
  | exact LeO.none _
  | refine LeO.ite ?_ ?_
  | refine LeO.bind ?_ (fun _ => ?_)
set_option maxHeartbeats 8000000 in
set_option maxRecDepth 100000 in
theorem a_W.calls (k : Nat) (A0 : Option Addr) (c0 : Nat) (l0 : List (S56)) (A1 : Option Addr) (c1 : Nat) (l1 : List (S56)) (r : Bool) (w : World) (hr0 : Kd.C k56 w A0 l0.length l0) (hc0 : l0.length ≤ c0) (hr1 : Kd.C k56 w A1 l1.length l1) (hc1 : l1.length ≤ c1) (h : a_W.f k l0 l1 = some r) :
 Calls Tryd.prog 38 #[.slice A0 l0.length c0,.slice A1 l1.length c1] w fun e w' => e = .returned (.bool r) ∧ b_q w w':=by
 have hu56:=Tryd.underlying56
 have HR0:=a_b.mk hr0
 have HC0:=a_b.mk hc0
 clear hr0 hc0
 have HR1:=a_b.mk hr1
 have HC1:=a_b.mk hc1
 clear hr1 hc1
 have H : (if (l0.length : Int) = (l1.length : Int) then (a_W.l0 k l0 l1 (l0.length : Int) 0) else (some false)) = some r:=h
 clear h
 by_cases c3 : (l0.length : Int) = (l1.length : Int)
 rotate_left
 ·rw [if_neg c3] at H
  have c3b0 : ((l0.length : Int) == (l1.length : Int)) = false:=beq_eq_false_iff_ne.mpr c3
  have c3b1 : ((l0.length : Int) != (l1.length : Int)) = true:=bne_iff_ne.mpr c3
  have c3b2 : (l0.length == l1.length) = false:=by first|simpa using c3|(simp at c3 ⊢; omega)
  obtain rfl:=Option.some.inj H
  go_enter Tryd.func38,Tryd.ntmps38
  go_wp2
  repeat (go_quiet (fail);try go_wp2)
  go_ret
  exact ⟨by first|rfl|(simp;done)|(simp [*];done),by repeat (first|exact b_q.refl _|apply b_q.step)⟩
 rw [if_pos c3] at H
 have c3b0 : ((l0.length : Int) == (l1.length : Int)) = true:=beq_iff_eq.mpr c3
 have c3b1 : ((l0.length : Int) != (l1.length : Int)) = false:=bne_eq_false_iff_eq.mpr c3
 have c3b2 : (l0.length == l1.length) = true:=by first|simpa using c3|(simp at c3 ⊢; omega)
 clear c3
 have H':=a_b.mk H
 clear H
 go_enter Tryd.func38,Tryd.ntmps38
 go_wp2
 repeat (go_quiet (fail);try go_wp2)
 go_loopg [13] k (fun kq v13 w' => ∃ (x13_1 : Int),v13 = .int .i64 x13_1 ∧ a_b (a_W.l0 kq l0 l1 (l0.length : Int) x13_1 = some r) ∧ a_b (kq ≤ k) ∧ b_q w w')
 case atStart => exact ⟨(0),(by first|rfl|(simp;done)|(simp [*];done)),H',⟨Nat.le_refl _⟩,by repeat (first|exact b_q.refl _|apply b_q.step)⟩
 case round =>
  clear H'
  try clear c1
  try clear p2
  try clear c3
  try clear c3b0
  try clear c3b1
  try clear c3b2
  obtain ⟨x13_1,rfl,HA,HK1,⟨m1,rfl⟩⟩:=hrel
  cases gk with
  | zero => exact absurd HA.out (by simp [a_W.l0])
  | succ k1 =>
   have H:=HA.out
   clear HA
   simp only [a_W.l0] at H
   by_cases c4 : x13_1 < (l0.length : Int)
   rotate_left
   ·rw [if_neg c4] at H
    have c4b0 : decide (x13_1 < (l0.length : Int)) = false:=decide_eq_false c4
    clear c4
    obtain rfl:=Option.some.inj H
    go_wp2
    repeat (go_quiet (fail);try go_wp2)
    go_ret
    exact ⟨by first|rfl|(simp;done)|(simp [*];done),by repeat (first|exact b_q.refl _|apply b_q.step)⟩
   rw [if_pos c4] at H
   have c4b0 : decide (x13_1 < (l0.length : Int)) = true:=decide_eq_true c4
   clear c4
   by_cases c5 : 0 ≤ x13_1
   rotate_left
   ·rw [if_neg c5] at H
    exact absurd H (by simp)
   rw [if_pos c5] at H
   have c5b0 : decide (0 ≤ x13_1) = true:=decide_eq_true c5
   clear c5
   by_cases c6 : x13_1 < (l0.length : Int)
   rotate_left
   ·rw [if_neg c6] at H
    exact absurd H (by simp)
   rw [if_pos c6] at H
   have c6b0 : decide (x13_1 < (l0.length : Int)) = true:=decide_eq_true c6
   clear c6
   by_cases c7 : x13_1 < (l1.length : Int)
   rotate_left
   ·rw [if_neg c7] at H
    exact absurd H (by simp)
   rw [if_pos c7] at H
   have c7b0 : decide (x13_1 < (l1.length : Int)) = true:=decide_eq_true c7
   clear c7
   by_cases c8 : (!(((a_n l0 x13_1).f0) == ((a_n l1 x13_1).f0)) || (!(((a_n l0 x13_1).f1) == ((a_n l1 x13_1).f1)))) = true
   ·rw [if_pos c8] at H
    have c8b0 : (!(((a_n l0 x13_1).f0) == ((a_n l1 x13_1).f0)) || (!(((a_n l0 x13_1).f1) == ((a_n l1 x13_1).f1)))) = true:=c8
    clear c8
    obtain rfl:=Option.some.inj H
    have p183 : 0 ≤ (x13_1 : Int):=of_decide_eq_true (by first|(with_reducible assumption)|assumption)
    have q183 : x13_1 < (l0.length : Int):=of_decide_eq_true (by first|(with_reducible assumption)|assumption)
    obtain ⟨ad183,e183,j_e,j_f⟩:=c_h HR0.out x13_1 p183 q183
    cases e183
    replace p183:=eq_true p183
    replace q183:=eq_true q183
    have p184 : 0 ≤ (x13_1 : Int):=of_decide_eq_true (by first|(with_reducible assumption)|assumption)
    have q184 : x13_1 < (l1.length : Int):=of_decide_eq_true (by first|(with_reducible assumption)|assumption)
    obtain ⟨ad184,e184,j_g,j_h⟩:=c_h HR1.out x13_1 p184 q184
    cases e184
    replace p184:=eq_true p184
    replace q184:=eq_true q184
    go_wp2
    repeat (go_quiet (fail);try go_wp2)
    go_ret
    exact ⟨by first|rfl|(simp;done)|(simp [*];done),by repeat (first|exact b_q.refl _|apply b_q.step)⟩
   rw [if_neg c8] at H
   have c8b0 : (!(((a_n l0 x13_1).f0) == ((a_n l1 x13_1).f0)) || (!(((a_n l0 x13_1).f1) == ((a_n l1 x13_1).f1)))) = false:=by simpa using c8
   clear c8
   have H':=a_b.mk H
   clear H
   have p183 : 0 ≤ (x13_1 : Int):=of_decide_eq_true (by first|(with_reducible assumption)|assumption)
   have q183 : x13_1 < (l0.length : Int):=of_decide_eq_true (by first|(with_reducible assumption)|assumption)
   obtain ⟨ad183,e183,j_e,j_f⟩:=c_h HR0.out x13_1 p183 q183
   cases e183
   replace p183:=eq_true p183
   replace q183:=eq_true q183
   have p184 : 0 ≤ (x13_1 : Int):=of_decide_eq_true (by first|(with_reducible assumption)|assumption)
   have q184 : x13_1 < (l1.length : Int):=of_decide_eq_true (by first|(with_reducible assumption)|assumption)
   obtain ⟨ad184,e184,j_g,j_h⟩:=c_h HR1.out x13_1 p184 q184
   cases e184
   replace p184:=eq_true p184
   replace q184:=eq_true q184
   go_wp2
   repeat (go_quiet (fail);try go_wp2)
   go_roundg k1
   case measure => have:=HK1.out;omega
   case rel => exact ⟨(wrap64 (x13_1 + 1)),(by first|rfl|(simp;done)|(simp [*];done)),H',⟨by have:=HK1.out;omega⟩,by repeat (first|exact b_q.refl _|apply b_q.step)⟩
end Go.Proofs.YtcpfcehfgenljaaDoor.Q
end
