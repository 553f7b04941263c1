/- Part 3 of 4 of what the row of TopoParts stands on: contracts over the given program's functions, the plain law, the row; no condition beyond those that each theorem states. -/
import Derived.Test.YtcpfcehfgenljaaDoorXTopoParts1
import Derived.Deep.Quiet
import Derived.Shelf.RegionOpenPlain
section
namespace Go.Proofs.YtcpfcehfgenljaaDoor.Q
open Go.RowKit Go.Proofs.YtcpfcehfgenljaaDoorW.PrintWords Go.Proofs.YtcpfcehfgenljaaDoorW.PrintLast Go.Proofs.YtcpfcehfgenljaaDoorW.PrintMore
set_option linter.unusedVariables false
set_option linter.unusedSimpArgs false
section
attribute [local go_sem] Oper.semAt_some
theorem c_h {W : World} {gb k : Nat} {v : Value} (h : k ≠ gb) : (W.setCell ⟨gb,0,none⟩ v).heap[k]? = W.heap[k]?:=Below.heap_setCell W ⟨gb,0,none⟩ v k h
def e_D {α : Type} (F : Fence) (m : Nat) (P : Program) (gf : Nat) (lb : Array Value) (encs : α → Array Value) (Kp : World → World → Prop) (gb : Nat) (S : List α → Prop) (N : Nat) (w0 : World) : Prop :=
 ∀ (l : Nat) (J : List α → World → Prop) (W : World),Below w0.heap.size w0 W → AbidesFrom W.heap.size J → (∀ s A v,J s A → J s (A.setCell ⟨gb,0,none⟩ v)) →
  (∀ pre x W1,J pre W1 → pre.length < N → YieldAt F (m - 1) P l (encs x) W1 fun e W' => e = .returned (.bool true) ∧ J (pre ++ [x]) W' ∧ Kp W1 W') → J [] W →
  CallsIn F m P gf (#[.func (.yield l) #[] #[]] ++ lb) W fun e W' => (∃ v,e = .returned v) ∧ ∃ xs,S xs ∧ J xs W'
theorem c_5 {F : Fence} {n : Nat} {P : Program} {α : Type} {g : Operand} {ps : Array Tmp} {assign body : Code} {Q : Exit → Act → World → Prop} {a : Act} {w : World}
 (hro : F.round = none) (h1 : 1 ≤ n) {gf : Nat} {lb : Array Value} (hg : a.eval g = .func (.func gf) #[] lb) (hFg : F.fn gf) (eg : ∀ args w,(callFunc gf args).run P w = .ok (.enter gf args) w)
 {encs : α → Array Value} {Kp : World → World → Prop} {S : List α → Prop} {N gb : Nat} {w0 : World} (hseq : e_D F (n - 1) P gf lb encs Kp gb S N w0) (hgb : gb < w.heap.size)
 (hKt : ∀ {A B C : World}, Kp A B → Kp B C → Kp A C) (hKb : ∀ (W : World) (l : Nat) (o o' : Obj),w.heap.size ≤ l → W.heap[l]? = some o → o.isCells = false → o.isWalk = false → Kp W (W.putObj l o')) (hb0 : Below w0.heap.size w0 w) (hps : ∀ x,(encs x).size = ps.size)
 (I : List α → World → Prop) (hI : OwnFrom w.heap.size I) (hIb : ∀ s A v,I s A → I s (A.setCell ⟨gb,0,none⟩ v)) (h0 : I [] w) (a₁ : α → Act)
 (hassign : ∀ (l : Nat) (x : α) (W : World) (K : Act → World → Prop),K (a₁ x) W →
  assign.wpIn (F.inRound l) (n - 1 - 1) P (Exit.then K (fun _ _ _ => False)) { tmps:=(ps.zip (encs x)).foldl (fun t (p,v) => t.setIfInBounds p v) a.tmps,defers:=[] } W)
 (hbody : ∀ (l : Nat) (pre : List α) (x : α) (W : World),I pre W → pre.length < N → body.wpIn (F.inRound l) (n - 1 - 1) P (Exit.then (fun _ W' => KeepsFrom w.heap.size W W' ∧ Kp W W' ∧ I (pre ++ [x]) W') (fun _ _ _ => False)) (a₁ x) W)
 (hdone : ∀ (D : Nat) (xs : List α) (W : World),w.heap.size ≤ D → S xs → I xs W → W.heap[D]? = some (.deferred (some [])) → Q .normal { a with defers := { target:=.collected D,args:=#[] } :: a.defers } W) :
 (Code.rangeFunc g ps assign body).wpIn F n P Q a w:=by
 refine wpIn_rangeFunc fun fn hfn => ?_
 rw [hro]
 obtain ⟨rec,hrec⟩ : ∃ rec : LoopState → Option Code → Loop,rec = fun st pe => { state:=st,pending:=pe,fn,tmps:=a.tmps,params:=ps,assign,body,defers:=w.heap.size } := ⟨_,rfl⟩
 have hL0 : ((w.alloc (.deferred (some []))).alloc (.loop (rec .ready none))).heap[w.heap.size + 1]? = some (.loop (rec .ready none)):=by
  have:=World.alloc_heap_new (w.alloc (.deferred (some []))) (.loop (rec .ready none));rwa [World.size_alloc] at this
 have hD0 : ((w.alloc (.deferred (some []))).alloc (.loop (rec .ready none))).heap[w.heap.size]? = some (.deferred (some [])):=(Below.heap_alloc _ _ _ (by simp)).trans (World.alloc_heap_new w _)
 have hI0 : I [] ((w.alloc (.deferred (some []))).alloc (.loop (rec .ready none))):=hI.alloc _ (hI.alloc _ h0)
 have hB0 : Below w0.heap.size w0 ((w.alloc (.deferred (some []))).alloc (.loop (rec .ready none))):=hb0.trans ((((Below.refl _ w).alloc (Nat.le_refl _) _).alloc (by simp) _).mono hb0.size)
 have hZ0 : ((w.alloc (.deferred (some []))).alloc (.loop (rec .ready none))).heap.size = w.heap.size + 2:=by simp
 have hent:=run_enterLoop_outer (P:=P) (w:=w) fn a.tmps ps assign body
 rw [show (Loop.mk .ready none fn a.tmps ps assign body w.heap.size) = rec .ready none by rw [hrec]] at hent
 generalize (w.alloc (.deferred (some []))).alloc (.loop (rec .ready none)) = W1 at *
 refine ⟨w.heap.size + 1,[{ target:=.collected w.heap.size,args:=#[] }],W1, { target:=.fn (.func gf) lb,args:=#[.func (.yield (w.heap.size + 1)) #[] #[]] }, W1,gf,#[.func (.yield (w.heap.size + 1)) #[] #[]] ++ lb,W1,hent,?_,?_,?_,fun _ => h1,?_⟩
 ·simp only [resolve,hg];simp [go_sem]
 ·intro f' hf';simp [Target.leads] at hf';subst hf';exact hFg
 ·simp [invoke,go_sem,eg]
 refine (hseq (w.heap.size + 1) (fun pre W => I pre W ∧ W.heap[w.heap.size + 1]? = some (.loop (rec .ready none)) ∧ W.heap[w.heap.size]? = some (.deferred (some []))) W1 hB0 ?_ ?_ ?_ ⟨hI0,hL0,hD0⟩).mono ?_
 ·intro s A B row hs hg' hr
  have hr' : ∀ r,row = some r → ∃ o : Obj,A.heap[r]? = some o ∧ o.isWalk = true:=fun r e => (hr r e).2
  exact ⟨hI s A B row hs.1 hg' (fun r e => by obtain ⟨hB,o,ho,hw⟩:=hr r e;exact ⟨by omega,o,ho,Obj.not_cells_of_walk hw⟩),(grownBy_keeps hg' hr' hs.2.1 rfl).trans hs.2.1,(grownBy_keeps hg' hr' hs.2.2 rfl).trans hs.2.2⟩
 ·intro s A v hs
  exact ⟨hIb s A v hs.1,(c_h (by omega)).trans hs.2.1,(c_h (by omega)).trans hs.2.2⟩
 ·rintro pre x W ⟨hi,hl,hk⟩ hlen
  have hlt : w.heap.size + 1 < W.heap.size:=(Array.getElem?_eq_some_iff.1 hl).1
  have hy:=run_yield (P:=P) (args:=encs x) hl (by rw [hrec];exact hps x)
  rw [hrec] at hy
  refine ⟨fn,_,assign,body,hy,roundIn_of_wpIn hfn (hassign _ x W _ ⟨_,run_beginRound hl (by rw [hrec]),?_⟩)⟩
  have hl2 : (W.putObj (w.heap.size + 1) (.loop { rec .ready none with state:=.busy })).heap[w.heap.size + 1]? = some (.loop { rec .ready none with state:=.busy }):=World.putObj_heap_same hlt
  have hk2 : (W.putObj (w.heap.size + 1) (.loop { rec .ready none with state:=.busy })).heap[w.heap.size]? = some (.deferred (some [])):=(World.putObj_heap_other (by omega)).trans hk
  refine wpIn_mono (hbody _ pre x _ (hI.putObj _ hi (by omega) hl rfl) hlen) ?_
  intro e a3 W3 hp
  cases e with
  | normal =>
   obtain ⟨hk3,hkp3,hi3⟩:=hp
   have hl3:=hk3.same _ _ (by omega) hl2 rfl
   have hend:=run_endRound (P:=P) none hl3
   rw [hrec] at hend
   rw [hrec] at hl3
   exact ⟨_,_,hend,rfl,⟨hI.putObj _ hi3 (by omega) hl3 rfl,by rw [hrec];exact World.putObj_heap_same (Array.getElem?_eq_some_iff.1 hl3).1,(World.putObj_heap_other (by omega)).trans (hk3.same _ _ (Nat.le_refl _) hk2 rfl)⟩,hKt (hKt (hKb _ _ _ _ (by omega) hl rfl rfl) hkp3) (hKb _ _ _ _ (by omega) hl3 rfl rfl)⟩
  | ret => exact hp.elim
  | exit id => exact hp.elim
  | goto t => exact hp.elim
  | panic ch => exact hp.elim
  | outgrown => exact hp.elim
 rintro e W2 ⟨⟨v,rfl⟩,xs,hS,hi,hl,hk⟩
 exact ⟨none,_,by have:=run_endLoop (P:=P) hl (by rw [hrec];simp);rw [hrec] at this;exact this,hdone _ xs _ (Nat.le_refl _) hS (hI.putObj _ hi (by omega) hl rfl) ((World.putObj_heap_other (by omega)).trans hk)⟩
def CpK (n₀ g : Nat) (A C : World) : Prop:=Below n₀ A C ∧ C.heap[g]? = A.heap[g]?
theorem CpK.trans {n₀ g : Nat} {A B C : World} (h : CpK n₀ g A B) (k : CpK n₀ g B C) : CpK n₀ g A C:=⟨h.1.trans k.1,k.2.trans h.2⟩
def f_N (w : World) (g : Nat) : Nat:=match w.cell? ⟨g,0,none⟩ with|some (.int _ z) => z.toNat|_ => 0
theorem e_h {w : World} {g m : Nat} (h : w.cell? ⟨g,0,none⟩ = some (.int .u32 (m : Int))) : f_N w g = m:=by unfold f_N;rw [h];simp
theorem e_u (m : Nat) (h : m ≠ 0) : m &&& (m - 1) < m:=Nat.lt_of_le_of_lt Nat.and_le_right (by omega)
set_option maxRecDepth 100000 in
set_option maxHeartbeats 4000000 in
theorem d_R (n : Nat) (hn : 2 ≤ n) (g n₀ s : Nat) (hs : s < 4294967296) (w : World) (hn₀ : n₀ ≤ w.heap.size) (hgn : n₀ ≤ g) (hb0 : w.heap[g]? = some (.cells #[.int .u32 (s : Int)] 45 (0,0))) (ht : b_p w) (h0n : 0 < n₀) :
 e_D Fence.wide n Tryd.prog 62 #[.pointer (some ⟨g,0,none⟩)] (fun x : Nat => #[.int .i64 (x : Int)]) (CpK n₀ g) g (fun xs => xs = c_p (s &&& 255)) 8 w:=by
 intro l J W hW hJ hJg hY h0
 refine callsIn_of_wp Tryd.func62 rfl trivial ?_ rfl
 simp only [Tryd.ntmps62,List.size_toArray,List.length_cons,List.length_nil,Nat.reduceAdd,Nat.reduceSub,Array.replicate_succ,Array.replicate_zero,List.push_toArray,List.append_toArray,List.nil_append,List.cons_append]
 have hg : W.heap[g]? = some (.cells #[.int .u32 (s : Int)] 45 (0,0)):=(hW.block g (a_1 hb0)).trans hb0
 have hT : b_p W:=ht.below hW
 have hc:=(a_l hg 0).trans rfl
 have hf:=a_i hg 0
 have HY:=a_b.mk hY
 have HJ:=a_b.mk hJ
 have HJG:=a_b.mk hJg
 have HT:=a_b.mk hT
 have H0:=a_b.mk h0
 have HG:=a_b.mk hg
 have HE : bits .and .u32 (s : Int) 255 = ((s &&& 255 : Nat) : Int):=bits_and_u32_nat s 255 hs (by decide)
 clear hY hJ hJg hg hT ht h0 hb0 hW
 gi_wp2_with (simp only [HE])
 gi_loopw [5] (fun _ wr => ∃ (pre : List Nat) (m : Nat),m < 256 ∧ a_b (c_p (s &&& 255) = pre ++ c_p m) ∧ a_b (J pre wr) ∧ a_b (Below n₀ W wr) ∧ a_b (wr.heap[g]? = some (.cells #[.int .u32 (m : Int)] 45 (0,0))))
  (fun _ wr => f_N wr g)
 case atStart => exact ⟨[],s &&& 255,Nat.lt_succ_of_le Nat.and_le_right,⟨rfl⟩,⟨HJG.out _ _ _ H0.out⟩,⟨(Below.refl _ _).setCell (p:=⟨g,0,none⟩) hgn _⟩,⟨b_d HG.out 0 _ rfl⟩⟩
 case round =>
  obtain ⟨pre,m,hm,HL,HJs,HB,HG2⟩:=hrel
  have hmc : wr.cell? ⟨g,0,none⟩ = some (.int .u32 (m : Int)):=(a_l HG2.out 0).trans rfl
  by_cases hm0 : m = 0
  ·subst hm0
   gi_wp2
   go_end0
   exact ⟨⟨_,rfl⟩,_,by have:=HL.out;rw [e_X,List.append_nil] at this;exact this.symm,HJs.out⟩
  have hne : ((m : Int) != 0) = true:=by simp;omega
  have hstep:=e_W m hm hm0
  have hlen : pre.length < 8:=by
   have h1:=e_c (s &&& 255)
   rw [HL.out,hstep,List.length_append,List.length_cons] at h1
   omega
  have HT2 : a_b (b_p wr):=⟨fun j hj => (HB.out.cell (p:=⟨0,j,none⟩) h0n).trans (HT.out j hj)⟩
  obtain ⟨fn,tmps,assign,body,hy,hR⟩:=HY.out pre (Lib.ctz 32 m) wr HJs.out hlen
  have HR:=a_b.mk hR
  have HS:=a_b.mk hstep
  have HM0:=a_b.mk hm0
  clear hR hstep hm0
  have hf49 : Fence.wide.fn 63:=trivial
  have hn1 : 1 ≤ n:=by omega
  gi_wp2_with (first|(gi_at_call 63;refine (callsIn_wide.2 (e_8 m HM0.out (by omega) _ HT2.out)).mono ?_;rintro e w' ⟨rfl,rfl⟩)|(refine HR.out.mono ?_;rintro e W3 ⟨rfl,hJ3,hk3⟩;have HJ3:=a_b.mk hJ3;have HK3:=a_b.mk hk3;have G3:=a_b.mk (hk3.2.trans HG2.out);clear hJ3 hk3;have c3 : W3.cell? ⟨g,0,none⟩ = some (.int .u32 (m : Int)):=(a_l G3.out 0).trans rfl;have f3:=a_i G3.out 0;have z3:=a_1 G3.out))
  have hE2 : bits BinOp.and IntKind.u32 (m : Int) (((m : Int) - 1) % 4294967296) = ((m &&& (m - 1) : Nat) : Int):=by
   have hm0:=HM0.out
   rw [show ((m : Int) - 1) % 4294967296 = ((m - 1 : Nat) : Int) by omega]
   exact bits_and_u32_nat m (m - 1) (by omega) (by omega)
  rw [hE2]
  have B3 : (W3.setCell ⟨g,0,none⟩ (.int .u32 ((m &&& (m - 1) : Nat) : Int))).heap[g]? = some (.cells #[.int .u32 ((m &&& (m - 1) : Nat) : Int)] 45 (0,0)):=b_d G3.out 0 _ rfl
  refine ⟨⟨pre ++ [Lib.ctz 32 m],m &&& (m - 1),Nat.lt_of_le_of_lt Nat.and_le_left hm,⟨by rw [HL.out,HS.out];simp⟩,⟨HJG.out _ _ _ HJ3.out⟩,⟨(HB.out.trans HK3.out.1).setCell (p:=⟨g,0,none⟩) hgn _⟩,⟨B3⟩⟩,?_⟩
  rw [e_h ((a_l B3 0).trans rfl),e_h hmc]
  exact e_u m HM0.out
set_option maxRecDepth 100000 in
set_option maxHeartbeats 4000000 in
theorem d_r (n : Nat) (hn : 4 ≤ n) (g s : Nat) (hs : s < 4294967296) (w : World) (hb0 : w.heap[g]? = some (.cells #[.int .u32 (s : Int)] 45 (0,0))) (ht : b_p w) (h0g : 0 < g) :
 CallsIn Fence.wide n Tryd.prog 61 #[.slice none 0 0,.func (.func 62) #[] #[.pointer (some ⟨g,0,none⟩)]] w fun e W' => ∃ v,e = .returned v ∧ W'.ownsRow w.heap.size 3 1 v (c_p (s &&& 255)).length ((c_p (s &&& 255)).map fun x : Nat => Value.int .i64 (x : Int)) ∧ Below g w W':=by
 have h1 : 1 ≤ n:=by omega
 have hgl:=a_1 hb0
 obtain ⟨i0,hi,hz0,hz1,hz2⟩:=info_parts info3
 refine callsIn_of_wp_marks Tryd.func61 rfl trivial ?_ rfl
 simp only [Tryd.ntmps61,List.size_toArray,List.length_cons,List.length_nil,Nat.reduceAdd,Nat.reduceSub,Array.replicate_succ,Array.replicate_zero,List.push_toArray,List.append_toArray,List.nil_append,List.cons_append]
 have HT:=a_b.mk ht
 have HB0:=a_b.mk hb0
 clear ht hb0
 gi_wp2
 have bO:=Boxed.new w 46 (.slice none 0 0)
 have hB0 : Below g w (w.alloc (.cells #[.slice none 0 0] 46)):=(Below.refl _ w).alloc (by omega) _
 have hBw : Below w.heap.size w (w.alloc (.cells #[.slice none 0 0] 46)):=(Below.refl _ w).alloc (Nat.le_refl _) _
 refine c_5 (w0:=w.alloc (.cells #[.slice none 0 0] 46)) rfl h1 (gf:=62) (lb:=#[.pointer (some ⟨g,0,none⟩)]) rfl trivial (enters_of Tryd.func62 (by kernel_rfl) rfl)
  (d_R (n - 1) (by omega) g g s hs _ (by simp;omega) (Nat.le_refl _) ((hBw.block g hgl).trans HB0.out) (HT.out.below hBw) h0g) (by simp;omega) CpK.trans (fun W l o o' hl ho hc hw => ⟨belowK_b (w:=w.alloc (.cells #[.slice none 0 0] 46)) (by simp;omega) W l o o' hl ho hc hw,World.putObj_heap_other (by simp at hl;omega)⟩) (Below.refl _ _) (fun _ => rfl)
  (fun pre W => (∃ v,Boxed W w.heap.size 46 v ∧ W.ownsRow w.heap.size 3 1 v pre.length (pre.map fun x : Nat => Value.int .i64 (x : Int)) ∧ True) ∧ Below g w W)
  (OwnFrom.and (Own.from (holdsRow_own w.heap.size w.heap.size 46 3 1 (fun pre : List Nat => pre.length) (fun pre => pre.map fun x : Nat => Value.int .i64 (x : Int)) (fun _ _ => True)) _) (ownFrom_below (by omega) (by simp;omega)))
  (fun pre A u ⟨⟨v,hv,hr,_⟩,hb⟩ => ⟨⟨v,(Below.heap_setCell A ⟨g,0,none⟩ u w.heap.size (by show w.heap.size ≠ g;omega)).trans hv,e_I hr (fun k hk => Below.heap_setCell A ⟨g,0,none⟩ u k (by have:=c_C hr k hk;show k ≠ g;omega)),trivial⟩,hb.setCell (p:=⟨g,0,none⟩) (Nat.le_refl _) u⟩)
  ⟨⟨_,bO,World.ownsRow_nil _ _ _ _,trivial⟩,hB0⟩
  (fun x => { tmps:=#[.slice none 0 0,.func (.func 62) #[] #[.pointer (some ⟨g,0,none⟩)],.pointer (some ⟨w.heap.size,0,none⟩),undef,.slice none 0 0,.int .i64 (x : Int),.func (.func 62) #[] #[.pointer (some ⟨g,0,none⟩)],.int .i64 (x : Int),undef,undef,undef,undef,undef],defers:=[] }) ?assign ?body ?done
 case assign =>
  intro l x W K hK
  gi_wp2
  exact hK
 case body =>
  rintro l pre x W ⟨⟨v,hv,hrow,_⟩,hB⟩ hlt
  have hc:=hv.cell
  have hmx : 8 ≤ maxLen:=by decide
  gi_wp2_with (gi_at_builtin;refine wpListIn_append_own _ rfl _ _ 46 rfl w.heap.size 3 i0 (.int .i64 0) 1 8 Tryd.underlying46 hi hz0 hz1 hz2 rfl (by decide) _ _ _ rfl (hrow.alloc _) ⟨W.heap.size,0,none⟩ 1 1 [.int .i64 (x : Int)] rfl rfl (cell_one_new _ _ _) (by simp [Value.oneCell']) (by omega) (by omega) (by have:=hv.lt;simp;omega) ?_;intro v' w1 hown' hgrow _;obtain ⟨g',cap',rfl⟩:=ownsRow_succ hown';obtain ⟨hv1,hv2,hr2,hk2,hb2⟩:=hv.appended (by decide) hrow (Nat.le_of_lt hv.lt) (Nat.le_refl _) hown' hgrow;have hc1:=hv1.cell;have hf1:=hv1.frozen)
  exact ⟨hk2.from _,⟨hb2.mono (by omega),hb2.block _ (by omega)⟩,⟨_,hv2,by simpa using hr2,trivial⟩,hB.trans (hb2.mono (by omega))⟩
 case done =>
  rintro D ys W hD rfl ⟨⟨v,hv,hrow,_⟩,hB⟩ hK
  have hc:=hv.cell
  gi_wp2
  refine ⟨by simp,.inl ⟨_,_,rfl,run_takeDeferred hK,?_⟩⟩
  exact ⟨_,results_tmp rfl _ _ _,v,rfl,ownsRow_putObj hrow _ hK rfl,hB.trans (belowK_b (w:=w) (by omega) W D _ _ (by simp at hD;omega) hK rfl rfl)⟩
set_option maxHeartbeats 1000000 in
theorem e_b (n : Nat) (hn : 5 ≤ n) (g s : Nat) (hs : s < 4294967296) (w : World) (hb0 : w.heap[g]? = some (.cells #[.int .u32 (s : Int)] 45 (0,0))) (ht : b_p w) (h0g : 0 < g) :
 CallsIn Fence.wide n Tryd.prog 54 #[.func (.func 62) #[] #[.pointer (some ⟨g,0,none⟩)]] w fun e W' => ∃ v,e = .returned v ∧ W'.ownsRow w.heap.size 3 1 v (c_p (s &&& 255)).length ((c_p (s &&& 255)).map fun x : Nat => Value.int .i64 (x : Int)) ∧ Below g w W':=by
 have hf : Fence.wide.fn 61:=trivial
 have hn1 : 1 ≤ n:=by omega
 have HC:=a_b.mk (d_r (n - 1) (by omega) g s hs w hb0 ht h0g)
 clear hb0 ht
 refine callsIn_of_wp Tryd.func54 rfl trivial ?_ rfl
 simp only [Tryd.ntmps54,List.size_toArray,List.length_cons,List.length_nil,Nat.reduceAdd,Nat.reduceSub,Array.replicate_succ,Array.replicate_zero,List.push_toArray,List.append_toArray,List.nil_append,List.cons_append]
 gi_wp2_with (gi_at_call 61;refine HC.out.mono ?_;rintro e w' ⟨v,rfl,hrow,hb⟩;have HR:=a_b.mk hrow;have HB:=a_b.mk hb;clear hrow hb)
 go_ret
 exact ⟨v,rfl,HR.out,HB.out⟩
theorem f_r.calls (s : Nat) (w : World) :
 Calls Tryd.prog 55 #[.int .u32 (s : Int)] w fun e w' => e = .returned (.func (.func 62) #[] #[.pointer (some ⟨w.heap.size,0,none⟩)]) ∧ w' = w.alloc (.cells #[.int .u32 (s : Int)] 45):=by
 go_enter Tryd.func55,Tryd.ntmps55
 go_wp2
 go_ret
 exact ⟨rfl,rfl⟩
def b_O.f (a0 : Int) : Option (List Int):=if 0 ≤ a0 ∧ a0 < 4294967296 then some ((c_p (a0.toNat &&& 255)).map fun x : Nat => (x : Int)) else none
set_option maxHeartbeats 1000000 in
theorem b_O.calls (a0 : Int) (r : List Int) (w : World) (ht : b_p w) (h : b_O.f a0 = some r) :
 Calls Tryd.prog 42 #[.int .u32 a0] w fun e w' => ∃ v0_ : Value,e = .returned (v0_) ∧ Kd.R (Kd.int .i64) 3 w' w.heap.size (fun _ => True) v0_ r ∧ Below w.heap.size w w':=by
 unfold b_O.f at h
 split at h
 case isFalse => cases h
 case isTrue hs =>
 obtain rfl:=Option.some.inj h
 obtain ⟨s,rfl⟩ : ∃ s : Nat,a0 = (s : Int):=⟨a0.toNat,by omega⟩
 simp only [Int.toNat_natCast] at h ⊢
 have hs2 : s < 4294967296:=by omega
 have h0:=World.block_lt_of_cell? w _ (ht 0 (by decide))
 have hc:=e_b 6 (by omega) w.heap.size s hs2 (w.alloc (.cells #[.int .u32 (s : Int)] 45)) (c_g w _) (ht.below ((Below.refl _ w).alloc (Nat.le_refl _) _)) (by show 0 < w.heap.size;simp at h0;omega)
 have HC:=a_b.mk hc
 clear hc h ht
 refine (callsIn_wide (n:=7)).1 ?_
 have hf1 : Fence.wide.fn 54:=trivial
 have hf2 : Fence.wide.fn 55:=trivial
 refine callsIn_of_wp Tryd.func42 rfl trivial ?_ rfl
 simp only [Tryd.ntmps42,List.size_toArray,List.length_cons,List.length_nil,Nat.reduceAdd,Nat.reduceSub,Array.replicate_succ,Array.replicate_zero,List.push_toArray,List.append_toArray,List.nil_append,List.cons_append]
 gi_wp2_with (first
  | (gi_at_call 55;refine (callsIn_wide.2 (f_r.calls s w)).mono ?_;rintro e w' ⟨rfl,rfl⟩)
  | (gi_at_call 54;refine HC.out.mono ?_;rintro e w' ⟨v,rfl,hrow,hb⟩;have HR:=a_b.mk hrow;have HB:=a_b.mk hb;clear hrow hb))
 go_ret
 refine ⟨v,rfl,Kd.d_P (enc:=Value.int .i64) (h1:=fun _ => rfl) ?_ (fun _ _ => trivial),((Below.refl _ w).alloc (Nat.le_refl _) _).trans HB.out⟩
 have hr:=d_D HR.out (show w.heap.size ≤ (w.alloc (.cells #[.int .u32 (s : Int)] 45)).heap.size by simp)
 simpa [encs,Function.comp_def] using hr
end
end Go.Proofs.YtcpfcehfgenljaaDoor.Q
end
section
namespace Go.Proofs.YtcpfcehfgenljaaDoor.Q
open Go.RowKit Go.Proofs.YtcpfcehfgenljaaDoorW.PrintWords Go.Proofs.YtcpfcehfgenljaaDoorW.PrintLast Go.Proofs.YtcpfcehfgenljaaDoorW.PrintMore
set_option linter.unusedVariables false
set_option linter.unusedSimpArgs false
section
attribute [local go_sem] Oper.semAt_some
def d_w (d : List Int) (j : Nat) : List Int:=(d.set (j + 1) (rd d (j : Int))).set j (rd d ((j + 1 : Nat) : Int))
def c_T (cf : Int → Int → Int) : Nat → List Int → List Int
 | 0,d => d
 | j + 1,d => if cf (rd d ((j + 1 : Nat) : Int)) (rd d (j : Int)) < 0 then c_T cf j (d_w d j) else d
def b_3 (cf : Int → Int → Int) : Nat → Nat → List Int → List Int
 | 0,_,d => d
 | m + 1,i,d => b_3 cf m (i + 1) (c_T cf i d)
theorem f_X (d : List Int) (j : Nat) : (d_w d j).length = d.length:=by simp [d_w]
theorem d_Z {d : List Int} {j : Nat} (h : j < d.length) : rd d (j : Int) ∈ d:=by unfold rd;simp [h]
theorem f_V {d : List Int} {j : Nat} {P : Int → Prop} (h : ∀ x ∈ d,P x) (hj : j + 1 < d.length) : ∀ x ∈ d_w d j,P x:=by
 intro x hx
 unfold d_w at hx
 rcases List.mem_or_eq_of_mem_set hx with hx|rfl
 ·rcases List.mem_or_eq_of_mem_set hx with hx|rfl
  ·exact h x hx
  exact h _ (d_Z (by omega))
 exact h _ (d_Z hj)
structure b_c (w : World) where
 W : World
 h : Below w.heap.size w W
instance (w : World) : Inhabited (b_c w):=⟨⟨w,Below.refl _ _⟩⟩
theorem wp_region_quiet_below {P : Program} {id : Nat} {Q : Exit → Act → World → Prop} {a : Act} {w : World} {l : List Oper} (hm : P.follows .mixedOrders = true) (hB : Region.lexB .any l.toArray = true)
 (h : wpQuiet P l.toArray (fun w' => ∃ p : b_c w,w' = p.W) (fun a' => ∀ w',(∃ p : b_c w,w' = p.W) → Q .normal a' w') l a) : (Code.region id l.toArray true).wp P Q a w :=
 wp_region_quiet (C:=fun w' => ∃ p : b_c w,w' = p.W) hm hB ⟨⟨_,b_X (Below.refl _ _)⟩,rfl⟩ (by simpa using h)
theorem b_c.calls {P : Program} {f : FuncId} {args : Array Value} {w : World} {p : b_c w} {v : Value} (h : Calls P f args p.W fun e w' => e = .returned v ∧ Below p.W.heap.size p.W w') :
 Calls P f args p.W fun e w'' => e = .returned v ∧ ∃ q : b_c w,w'' = q.W :=
 h.mono fun _ _ ⟨he,hb⟩ => ⟨he,⟨_,p.h.trans (hb.mono p.h.size)⟩,rfl⟩
theorem b_c.cell {w : World} {a : Addr} {v : Value} (h : w.cell? a = some v) (p : b_c w) : p.W.cell? a = some v:=(p.h.cell (World.block_lt_of_cell? w _ h)).trans h
set_option maxRecDepth 100000 in
set_option maxHeartbeats 4000000 in
theorem g_1 (g : Nat) (lb : Array Value) (eg : ∀ args w,(callFunc g args).run Tryd.prog w = .ok (.enter g args) w) (cf : Int → Int → Int) (Pd : Int → Prop) (wb : World) (A : Option Addr) (c : Nat) (xs : List Int) (hl : xs.length ≤ 1000000) (w : World)
 (hR : Kd.R (Kd.int .i64) 3 w wb.heap.size (fun _ => True) (.slice A xs.length c) xs) (hB : Below wb.heap.size wb w) (hP : ∀ x ∈ xs,Pd x)
 (hcmp : ∀ W,Below wb.heap.size wb W → ∀ x y,Pd x → Pd y → Calls Tryd.prog g (#[.int .i64 x,.int .i64 y] ++ lb) W fun e W' => e = .returned (.int .i64 (cf x y)) ∧ Below W.heap.size W W') :
 Calls Tryd.prog 64 #[.slice A xs.length c,.int .i64 0,.int .i64 xs.length,.func (.func g) #[] lb] w fun e w' => e = .returned (.tuple #[]) ∧ Kd.R (Kd.int .i64) 3 w' wb.heap.size (fun _ => True) (.slice A xs.length c) (b_3 cf (xs.length - 1) 1 xs) ∧ Below wb.heap.size wb w':=by
 have HR:=a_b.mk hR
 have HB:=a_b.mk hB
 have HP:=a_b.mk hP
 have HC:=a_b.mk hcmp
 clear hR hB hP hcmp
 have mixed : Tryd.prog.follows .mixedOrders = true:=by kernel_rfl
 go_enter Tryd.func64,Tryd.ntmps64
 go_wp2
 go_loopg [8] xs.length (fun g1 vi wr => ∃ (i : Nat) (dk : List Int),vi = .int .i64 i ∧ 1 ≤ i ∧ i ≤ xs.length + 1 ∧ xs.length + 1 - i ≤ g1 + 1 ∧ dk.length = xs.length ∧ a_b (Kd.R (Kd.int .i64) 3 wr wb.heap.size (fun _ => True) (.slice A xs.length c) dk) ∧ a_b (Below wb.heap.size wb wr) ∧ a_b (∀ x ∈ dk,Pd x) ∧ a_b (b_3 cf (xs.length - i) i dk = b_3 cf (xs.length - 1) 1 xs))
 case atStart => exact ⟨1,xs,by go_num,by omega,by omega,by omega,rfl,⟨HR.out⟩,⟨HB.out⟩,⟨HP.out⟩,⟨rfl⟩⟩
 case round =>
  clear HR HB HP
  obtain ⟨i,dk,rfl,hi1,hi2,hg1,hdl,HR,HB,HP,HE⟩:=hrel
  by_cases hlt : i < xs.length
  rotate_left
  ·have hltz : ¬ (i : Int) < (xs.length : Int):=by omega
   go_wp2
   go_end0
   refine ⟨rfl,?_,HB.out⟩
   have:=HE.out
   rw [show xs.length - i = 0 by omega] at this
   rw [← this]
   exact HR.out
  have hltz : (i : Int) < (xs.length : Int):=by omega
  have hE : b_3 cf (xs.length - i) i dk = b_3 cf (xs.length - (i + 1)) (i + 1) (c_T cf i dk):=by rw [show xs.length - i = (xs.length - (i + 1)) + 1 by omega,b_3]
  have HE2:=a_b.mk (hE.symm.trans HE.out)
  clear hE HE
  go_wp2
  go_loopg [9] i (fun g2 vj wr => ∃ (j : Nat) (dj : List Int),vj = .int .i64 j ∧ j ≤ i ∧ j ≤ g2 ∧ dj.length = xs.length ∧ a_b (Kd.R (Kd.int .i64) 3 wr wb.heap.size (fun _ => True) (.slice A xs.length c) dj) ∧ a_b (Below wb.heap.size wb wr) ∧ a_b (∀ x ∈ dj,Pd x) ∧ a_b (c_T cf j dj = c_T cf i dk))
  case atStart => exact ⟨i,dk,rfl,Nat.le_refl _,Nat.le_refl _,hdl,⟨HR.out⟩,⟨HB.out⟩,⟨HP.out⟩,⟨rfl⟩⟩
  case round =>
   clear HR HB HP
   obtain ⟨j,dj,rfl,hj1,hg2,hdl2,HR,HB,HP,HI⟩:=hrel
   by_cases hj0 : 0 < j
   rotate_left
   ·obtain rfl : j = 0:=by omega
    have hjaz : decide (((0 : Nat) : Int) > (0 : Int)) = false:=by decide
    go_wp2_with fail
    go_big_region_o
    have HR2:=a_b.mk (Kd.a_T HR.out)
    have HB2:=a_b.mk (b_X HB.out)
    generalize wr.drew = w3 at HR2 HB2 ⊢
    go_wp2
    go_roundg (xs.length - (i + 1))
    case measure => omega
    case rel => exact ⟨i + 1,dj,by go_num,by omega,by omega,by omega,hdl2,⟨HR2.out⟩,⟨HB2.out⟩,⟨HP.out⟩,⟨by rw [← HE2.out, ← HI.out];rfl⟩⟩
   obtain ⟨jp,hjp⟩ : ∃ q,q + 1 = j:=⟨j - 1,by omega⟩
   have zjp : (j : Int) = (jp : Int) + 1:=by omega
   obtain ⟨gd,cap,eA,hgb,hgl,cells,hcl⟩:=Kd.h_q HR.out (by omega)
   injection eA with e1 e2 e3
   subst e1
   clear e2 e3 hcl
   have hjad : decide ((jp : Int) + 1 > (0 : Int)) = true:=decide_eq_true (by omega)
   have hjaz' : (0 : Int) < (jp : Int) + 1:=by omega
   have pa : (0 : Int) ≤ (jp : Int) + 1:=by omega
   have ba : (jp : Int) + 1 < (xs.length : Int):=by omega
   have ra : IntKind.i64.wrap ((jp : Int) + 1) = (jp : Int) + 1:=by rw [IntKind.wrap_i64];omega
   have pc : (0 : Int) ≤ (jp : Int):=by omega
   have bc : (jp : Int) < (xs.length : Int):=by omega
   have rc : IntKind.i64.wrap ((jp : Int)) = (jp : Int):=by rw [IntKind.wrap_i64];omega
   obtain ⟨iN,hiN⟩ : ∃ q,q = j:=⟨_,rfl⟩
   obtain ⟨jN,hjN⟩ : ∃ q,q = jp:=⟨_,rfl⟩
   have ea : ((jp : Int) + 1).toNat = iN:=by omega
   have ec : ((jp : Int)).toNat = jN:=by omega
   obtain ⟨x1,hx1⟩ : ∃ x,x = rd dj (j : Int):=⟨_,rfl⟩
   obtain ⟨y1,hy1⟩ : ∃ x,x = rd dj (jp : Int):=⟨_,rfl⟩
   have c1:=Kd.d_O 0 HR.out (j : Int) (by omega) (by omega)
   have c0:=Kd.d_O 0 HR.out (jp : Int) (by omega) (by omega)
   rw [show rdOf 0 dj (j : Int) = x1 from hx1.symm,show ((j : Int)).toNat = iN by omega] at c1
   rw [show rdOf 0 dj (jp : Int) = y1 from hy1.symm,show ((jp : Int)).toNat = jN by omega] at c0
   have l1 : ∀ p : b_c wr,p.W.cell? ⟨gd,iN,none⟩ = some (.int .i64 x1):=b_c.cell c1.1
   have l0 : ∀ p : b_c wr,p.W.cell? ⟨gd,jN,none⟩ = some (.int .i64 y1):=b_c.cell c0.1
   have hPx : Pd x1:=by rw [hx1];exact HP.out _ (d_Z (by omega))
   have hPy : Pd y1:=by rw [hy1];exact HP.out _ (d_Z (by omega))
   have HCC:=a_b.mk (fun p : b_c wr => HC.out p.W (HB.out.trans (p.h.mono HB.out.size)) x1 y1 hPx hPy)
   clear hPx hPy
   have HX:=a_b.mk hx1
   have HY:=a_b.mk hy1
   have HIJ:=a_b.mk (And.intro hiN hjN)
   clear hx1 hy1 hiN hjN
   by_cases hv : cf x1 y1 < 0
   rotate_left
   ·have hd1 : decide (cf x1 y1 < 0) = false:=decide_eq_false hv
    go_wp2_with fail
    refine wp_region_quiet_below (by kernel_rfl) (by kernel_rfl) ?_
    repeat (quiet_step (first|(go_at_fn g;refine b_c.calls (HCC.out _))))
    refine wpQuiet_nil ?_
    rintro w2 ⟨p,hw⟩
    have hb2:=p.h
    rw [← hw] at hb2
    clear hw p
    have HR2:=a_b.mk (Kd.a_B HR.out hb2)
    have HB2:=a_b.mk (HB.out.trans (hb2.mono HB.out.size))
    have hI : c_T cf j dj = dj:=by rw [← hjp,c_T,if_neg];rw [hjp, ← HX.out, ← HY.out];omega
    have HI2:=a_b.mk hI
    clear hI l0 l1 c0 c1 hb2
    go_wp2
    go_roundg (xs.length - (i + 1))
    case measure => omega
    case rel => exact ⟨i + 1,dj,by go_num,by omega,by omega,by omega,hdl2,⟨HR2.out⟩,⟨HB2.out⟩,⟨HP.out⟩,⟨by rw [← HE2.out, ← HI.out,HI2.out]⟩⟩
   have hd1 : decide (cf x1 y1 < 0) = true:=decide_eq_true hv
   go_wp2_with fail
   refine wp_region_quiet_below (by kernel_rfl) (by kernel_rfl) ?_
   repeat (quiet_step (first|(go_at_fn g;refine b_c.calls (HCC.out _))))
   refine wpQuiet_nil ?_
   rintro w2 ⟨p,hw⟩
   have hb2:=p.h
   rw [← hw] at hb2
   clear hw p
   have HR2:=a_b.mk (Kd.a_B HR.out hb2)
   have HB2:=a_b.mk (HB.out.trans (hb2.mono HB.out.size))
   obtain ⟨rfl,rfl⟩:=HIJ.out
   have d1:=Kd.d_O 0 HR2.out (iN : Int) (by omega) (by omega)
   have d0:=Kd.d_O 0 HR2.out (jN : Int) (by omega) (by omega)
   rw [show rdOf 0 dj (iN : Int) = x1 from HX.out.symm,show ((iN : Int)).toNat = iN by omega] at d1
   rw [show rdOf 0 dj (jN : Int) = y1 from HY.out.symm,show ((jN : Int)).toNat = jN by omega] at d0
   obtain ⟨d1a,d1b⟩:=d1
   obtain ⟨d0a,d0b⟩:=d0
   have d2a : (w2.setCell ⟨gd,iN,none⟩ (.int .i64 y1)).cell? ⟨gd,jN,none⟩ = some (.int .i64 y1):=(World.cell?_setCell_other _ _ _ _ (by intro e';simp only [Addr.mk.injEq] at e';omega)).trans d0a
   have r1:=Kd.g_t HR2.out (iN : Int) y1
   have r2:=Kd.g_t r1 (jN : Int) x1
   rw [show ((iN : Int)).toNat = iN by omega,show ((jN : Int)).toNat = jN by omega] at r2
   have r3:=Kd.a_T r2
   have HR3:=a_b.mk r3
   have HB3:=a_b.mk (b_X ((HB2.out.setCell (p:=⟨gd,iN,none⟩) hgb (.int .i64 y1)).setCell (p:=⟨gd,jN,none⟩) hgb (.int .i64 x1)))
   clear r1 r2 r3 l0 l1 c0 c1 hb2 zjp
   have zjp : (iN : Int) = (jN : Int) + 1:=by omega
   go_wp2_with fail
   go_big_region_o
   clear d0a d1a d0b d1b d2a
   generalize ((w2.setCell ⟨gd,iN,none⟩ (.int .i64 y1)).setCell ⟨gd,jN,none⟩ (.int .i64 x1)).drew = w4 at HR3 HB3 ⊢
   go_wp2
   go_roundg jN
   case measure => omega
   case rel =>
    have hsw : (dj.set iN y1).set jN x1 = d_w dj jN:=by unfold d_w;rw [HX.out,HY.out, ← hjp]
    exact ⟨jN,d_w dj jN,by first|rfl|go_num,by omega,Nat.le_refl _,by rw [f_X];exact hdl2,⟨by rw [← hsw];exact HR3.out⟩,⟨HB3.out⟩,⟨f_V HP.out (by omega)⟩,⟨by rw [← HI.out, ← hjp,c_T,if_pos (by rw [hjp, ← HX.out, ← HY.out];exact hv)]⟩⟩
set_option maxRecDepth 100000 in
set_option maxHeartbeats 1000000 in
theorem e_6 (g : Nat) (lb : Array Value) (eg : ∀ args w,(callFunc g args).run Tryd.prog w = .ok (.enter g args) w) (cf : Int → Int → Int) (Pd : Int → Prop) (wb : World) (A : Option Addr) (c : Nat) (xs : List Int) (hl : xs.length ≤ 19) (w : World)
 (hR : Kd.R (Kd.int .i64) 3 w wb.heap.size (fun _ => True) (.slice A xs.length c) xs) (hB : Below wb.heap.size wb w) (hP : ∀ x ∈ xs,Pd x)
 (hcmp : ∀ W,Below wb.heap.size wb W → ∀ x y,Pd x → Pd y → Calls Tryd.prog g (#[.int .i64 x,.int .i64 y] ++ lb) W fun e W' => e = .returned (.int .i64 (cf x y)) ∧ Below W.heap.size W W') :
 Calls Tryd.prog 56 #[.slice A xs.length c,.int .i64 xs.length,.func (.func g) #[] lb] w fun e w' => e = .returned (.tuple #[]) ∧ Kd.R (Kd.int .i64) 3 w' wb.heap.size (fun _ => True) (.slice A xs.length c) (b_3 cf (xs.length - 1) 1 xs) ∧ Below wb.heap.size wb w':=by
 have HI:=a_b.mk (g_1 g lb eg cf Pd wb A c xs (by omega) w hR hB hP hcmp)
 have h1 : ¬ (20 : Int) ≤ (xs.length : Int):=by omega
 have h2 : ¬ (20 : Int) < (xs.length : Int):=by omega
 clear hR hB hP hcmp
 go_enter Tryd.func56,Tryd.ntmps56
 go_wp2
 go_loopg [7,8] 0 (fun _ v7 v8 wr => v7 = .int .i64 0 ∧ v8 = .int .i64 20 ∧ wr = w)
 case atStart => exact ⟨rfl,rfl,rfl⟩
 case round =>
  obtain ⟨rfl,rfl,rfl⟩:=hrel
  go_wp2_with (go_at_call 64;refine HI.out.mono ?_;rintro e w' ⟨rfl,hr,hb⟩;have HR:=a_b.mk hr;have HB:=a_b.mk hb;clear hr hb)
  go_loopg [6,7,8] 0 (fun _ v6 v7 v8 w3 => v6 = .int .i64 20 ∧ v7 = .int .i64 0 ∧ v8 = .int .i64 20 ∧ w3 = w')
  case atStart => exact ⟨rfl,rfl,rfl,rfl⟩
  case round =>
   obtain ⟨rfl,rfl,rfl,rfl⟩:=hrel
   go_wp2
   go_end0
   exact ⟨rfl,HR.out,HB.out⟩
set_option maxHeartbeats 1000000 in
theorem d_v (g : Nat) (lb : Array Value) (eg : ∀ args w,(callFunc g args).run Tryd.prog w = .ok (.enter g args) w) (cf : Int → Int → Int) (Pd : Int → Prop) (wb : World) (A : Option Addr) (c : Nat) (xs : List Int) (hl : xs.length ≤ 19) (w : World)
 (hR : Kd.R (Kd.int .i64) 3 w wb.heap.size (fun _ => True) (.slice A xs.length c) xs) (hB : Below wb.heap.size wb w) (hP : ∀ x ∈ xs,Pd x)
 (hcmp : ∀ W,Below wb.heap.size wb W → ∀ x y,Pd x → Pd y → Calls Tryd.prog g (#[.int .i64 x,.int .i64 y] ++ lb) W fun e W' => e = .returned (.int .i64 (cf x y)) ∧ Below W.heap.size W W') :
 Calls Tryd.prog 43 #[.slice A xs.length c,.func (.func g) #[] lb] w fun e w' => e = .returned (.tuple #[]) ∧ Kd.R (Kd.int .i64) 3 w' wb.heap.size (fun _ => True) (.slice A xs.length c) (b_3 cf (xs.length - 1) 1 xs) ∧ Below wb.heap.size wb w':=by
 have HI:=a_b.mk (e_6 g lb eg cf Pd wb A c xs hl w hR hB hP hcmp)
 clear hR hB hP hcmp
 go_enter Tryd.func43,Tryd.ntmps43
 go_wp2_with (go_at_call 56;refine HI.out.mono ?_;rintro e w' ⟨rfl,hr,hb⟩)
 go_end0
 exact ⟨rfl,hr,hb⟩
def dN (xs : List S56) (a b : Int) : Int:=if a = b then 0 else if ((a_u xs a).f0 == (a_u xs b).f0 && ((a_u xs a).f1 == (a_u xs b).f1)) = true then 1 else if (a_u xs a).f0 = (a_u xs b).f0 then 2 else 3
theorem b_9 (xs : List S56) (a b : Int) : 0 ≤ dN xs a b ∧ dN xs a b ≤ 3:=by
 unfold dN
 split
 ·omega
 split
 ·omega
 split <;> omega
theorem f_t (xs : List S56) (a b : Int) (h0 : 0 ≤ a) (h1 : a < xs.length) (h2 : 0 ≤ b) (h3 : b < xs.length) : a_w.f 1 xs a b = some (dN xs a b):=by
 unfold a_w.f dN
 rw [if_pos h0,if_pos h1,if_pos h2,if_pos h3]
 by_cases e : a = b
 ·subst e
  rw [if_pos rfl,if_pos rfl,a_w.j0]
  simp
 by_cases f : (a_u xs a).f0 = (a_u xs b).f0
 ·rw [if_pos f,a_w.j0,if_neg e,if_neg e,if_neg e,if_pos f];split <;> rfl
 rw [if_neg f,a_w.j0,if_neg e,if_neg e,if_neg e,if_neg f];split <;> rfl
set_option maxHeartbeats 1000000 in
theorem e_A (gt gc : Nat) (A : Option Addr) (c : Nat) (xs : List S56) (cpu a b : Int) (w : World) (hgt : w.heap[gt]? = some (.cells #[.slice A xs.length c] 24 (0,0))) (hgc : w.heap[gc]? = some (.cells #[.int .i64 cpu] 3 (0,0)))
 (hr : Kd.C k56 w A xs.length xs) (hc : xs.length ≤ c) (hu : 0 ≤ cpu ∧ cpu < xs.length) (ha : 0 ≤ a ∧ a < xs.length) (hb : 0 ≤ b ∧ b < xs.length) :
 Calls Tryd.prog 44 (#[.int .i64 a,.int .i64 b] ++ #[.pointer (some ⟨gt,0,none⟩),.pointer (some ⟨gc,0,none⟩)]) w fun e w' => e = .returned (.int .i64 (dN xs cpu a - dN xs cpu b)) ∧ Below w.heap.size w w':=by
 have l0 : ∀ p : b_c w,p.W.cell? ⟨gt,0,none⟩ = some (.slice A xs.length c):=b_c.cell ((a_l hgt 0).trans rfl)
 have l1 : ∀ p : b_c w,p.W.cell? ⟨gc,0,none⟩ = some (.int .i64 cpu):=b_c.cell ((a_l hgc 0).trans rfl)
 have D1:=a_b.mk (fun p : b_c w => a_w.calls 1 A c xs cpu a _ p.W (Kd.a_N hr p.h) hc (f_t xs cpu a hu.1 hu.2 ha.1 ha.2))
 have D2:=a_b.mk (fun p : b_c w => a_w.calls 1 A c xs cpu b _ p.W (Kd.a_N hr p.h) hc (f_t xs cpu b hu.1 hu.2 hb.1 hb.2))
 have r1:=b_9 xs cpu a
 have r2:=b_9 xs cpu b
 generalize dN xs cpu a = x at D1 r1 ⊢
 generalize dN xs cpu b = y at D2 r2 ⊢
 have hw : IntKind.i64.wrap (x - y) = x - y:=by rw [IntKind.wrap_i64];omega
 clear hgt hgc hr hu ha hb
 go_enter Tryd.func44,Tryd.ntmps44
 go_wp2_with fail
 refine wp_region_quiet_below (by kernel_rfl) (by kernel_rfl) ?_
 repeat (quiet_step (first|(go_at_call 40;with_reducible refine b_c.calls (D1.out _))|(go_at_call 40;with_reducible refine b_c.calls (D2.out _))))
 refine wpQuiet_nil ?_
 rintro w2 ⟨p,hw2⟩
 have hb2:=p.h
 rw [← hw2] at hb2
 clear hw2 p
 go_wp2
 go_ret
 exact ⟨rfl,hb2⟩
theorem d_U (l : List Nat) : ∀ (m i : Nat),(l.foldl (fun m i => m ||| 2 ^ i) m).testBit i = (m.testBit i || decide (i ∈ l)):=by
 induction l with
 | nil => intro m i;simp
 | cons x l ih =>
  intro m i
  rw [List.foldl_cons,ih,Nat.testBit_or,Nat.testBit_two_pow]
  by_cases h : x = i
  ·subst h;simp
  have : (decide (i ∈ x :: l)) = decide (i ∈ l):=by rw [decide_eq_decide];simp;intro e;exact absurd e.symm h
  rw [this,decide_eq_false h,Bool.or_false]
theorem e_N {p : S56 → Bool} {xs : List S56} {i : Nat} (h : (setN p xs).testBit i = true) : i < xs.length ∧ p (a_u xs (i : Int)) = true:=by
 unfold setN at h
 split at h
 ·unfold maskN at h
  rw [d_U] at h
  simp only [Nat.zero_testBit,Bool.false_or,decide_eq_true_eq] at h
  refine ⟨e_q h,?_⟩
  unfold c_m at h
  exact (List.mem_filter.mp h).2
 simp at h
theorem d_m (p : S56 → Bool) (xs : List S56) : setN p xs < 256:=by
 apply Nat.lt_of_not_le
 intro h
 have h8 : setN p xs ≠ 0:=by omega
 obtain ⟨i,hi,hi'⟩:=Nat.exists_ge_and_testBit_of_ge_two_pow (show 2 ^ 8 ≤ setN p xs from h)
 have:=(e_N hi').1
 have hok : okT xs = true:=by
  unfold setN at hi'
  split at hi'
  ·assumption
  simp at hi'
 unfold okT at hok
 simp at hok
 omega
def d_j (xs : List S56) (m : Nat) : List Int:=(c_p ((m &&& setN (fun _ => true) xs) &&& 255)).map fun x : Nat => (x : Int)
def g_k (xs : List S56) (cpu : Int) (m : Nat) : List Int:=b_3 (fun a b => dN xs cpu a - dN xs cpu b) ((d_j xs m).length - 1) 1 (d_j xs m)
def a_W.f (l0 : List S56) (a1 a2 : Int) : Option (List Int × Int):=if l0.length ≤ 1000000 ∧ 0 ≤ a2 ∧ a2 < 4294967296 then some (if okT l0 = true then (if 0 ≤ a1 ∧ a1 < (l0.length : Int) then (if Go.bits .andNot .u32 a2 255 = 0 then (g_k l0 a1 a2.toNat,0) else ([],140)) else ([],2)) else ([],160)) else none
theorem g_l {xs : List S56} {m : Nat} : ∀ x ∈ d_j xs m,0 ≤ x ∧ x < (xs.length : Int):=by
 intro x hx
 unfold d_j at hx
 obtain ⟨i,hi,rfl⟩:=List.mem_map.mp hx
 unfold c_p at hi
 have hb:=(List.mem_filter.mp hi).2
 rw [Nat.testBit_and,Nat.testBit_and] at hb
 simp only [Bool.and_eq_true] at hb
 have:=(e_N hb.1.2).1
 exact ⟨by omega,by omega⟩
theorem f_O (xs : List S56) (m : Nat) : (d_j xs m).length ≤ 8:=by unfold d_j;rw [List.length_map];exact e_c _
theorem f_Y (xs : List S56) (a : Int) : a_Q.f xs a = some (decide (0 ≤ a ∧ a < (xs.length : Int))):=by
 unfold a_Q.f
 by_cases h : a ≥ 0
 ·rw [if_pos h];congr 1;rw [decide_eq_decide];omega
 rw [if_neg h,decide_eq_false (by omega)]
set_option maxRecDepth 100000 in
set_option maxHeartbeats 4000000 in
theorem a_W.calls (A : Option Addr) (c : Nat) (xs : List S56) (a1 a2 : Int) (r1 : List Int) (r2 : Int) (w : World) (hr : Kd.C k56 w A xs.length xs) (hc : xs.length ≤ c) (ht : b_p w) (h : a_W.f xs a1 a2 = some (r1,r2)) :
 Calls Tryd.prog 20 #[.agg #[.slice A xs.length c],.int .i64 a1,.int .u32 a2] w fun e w' => ∃ v0_ : Value,e = .returned (.tuple #[v0_,.int .i64 r2]) ∧ Kd.R (Kd.int .i64) 3 w' w.heap.size (fun _ => True) v0_ r1 ∧ Below w.heap.size w w':=by
 unfold a_W.f at h
 split at h
 case isFalse => cases h
 case isTrue hh =>
 obtain ⟨hl,h0,h32⟩:=hh
 obtain ⟨m,rfl⟩ : ∃ m : Nat,a2 = (m : Int):=⟨a2.toNat,by omega⟩
 have h:=Option.some.inj h
 rw [Int.toNat_natCast] at h
 have hB0:=a_e (a_e (Below.refl w.heap.size w) (.cells #[.slice A xs.length c] 24)) (.cells #[.int .i64 a1] 3)
 have bt0:=a_j (c_g w (.cells #[.slice A xs.length c] 24)) (.cells #[.int .i64 a1] 3)
 have bc0:=c_g (w.alloc (.cells #[.slice A xs.length c] 24)) (.cells #[.int .i64 a1] 3)
 rw [World.size_alloc] at bc0
 have HB0:=a_b.mk hB0
 have BT0:=a_b.mk bt0
 have BC0:=a_b.mk bc0
 have HR:=a_b.mk hr
 have HT:=a_b.mk ht
 have HK:=a_b.mk (b_W xs)
 have HTH:=a_b.mk (f_Y xs a1)
 clear hB0 bt0 bc0 hr ht h0
 cases hok : okT xs with
 | false =>
  rw [if_neg (by rw [hok];decide)] at h
  obtain ⟨rfl,rfl⟩:=Prod.mk.inj h
  have HOK:=a_b.mk hok
  clear h hok
  go_enter Tryd.func20,Tryd.ntmps20
  go_wp2_with (go_at_call 28;refine (a_H.calls _ _ xs _ _ (Kd.a_N HR.out HB0.out) hc HK.out).mono ?_;rintro e w1 ⟨rfl,hb⟩;have HB1:=a_b.mk (HB0.out.trans (hb.mono HB0.out.size));clear hb;rw [HOK.out])
  go_ret2
  exact ⟨_,rfl,Kd.d_7 _ _ _ _ _,HB1.out⟩
 | true =>
  rw [if_pos hok] at h
  have HOK:=a_b.mk hok
  clear hok
  by_cases hin : 0 ≤ a1 ∧ a1 < (xs.length : Int)
  rotate_left
  ·rw [if_neg hin] at h
   obtain ⟨rfl,rfl⟩:=Prod.mk.inj h
   have HIN:=a_b.mk hin
   clear h hin
   go_enter Tryd.func20,Tryd.ntmps20
   go_wp2_with (first
    | (go_at_call 28;refine (a_H.calls _ _ xs _ _ (Kd.a_N HR.out HB0.out) hc HK.out).mono ?_;rintro e w1 ⟨rfl,hb⟩;have HB1:=a_b.mk (HB0.out.trans (hb.mono HB0.out.size));have t1:=(a_l (a_k BT0.out hb) 0).trans rfl;have u1:=(a_l (a_k BC0.out hb) 0).trans rfl;clear hb;rw [HOK.out])
    | (go_at_call 39;refine (a_Q.calls _ _ xs _ _ _ (Kd.a_N HR.out HB1.out) hc HTH.out).mono ?_;rintro e w2 ⟨rfl,hb⟩;have HB2:=a_b.mk (HB1.out.trans (hb.mono HB1.out.size));clear hb;rw [decide_eq_false HIN.out]))
   go_ret2
   exact ⟨_,rfl,Kd.d_7 _ _ _ _ _,HB2.out⟩
  rw [if_pos hin] at h
  have HIN:=a_b.mk hin
  clear hin
  by_cases hm : Go.bits .andNot .u32 (m : Int) 255 = 0
  rotate_left
  ·rw [if_neg hm] at h
   obtain ⟨rfl,rfl⟩:=Prod.mk.inj h
   have HCC : a_b (b_q.f (m : Int) = some 140):=⟨by unfold b_q.f;rw [if_neg hm]⟩
   clear h hm
   go_enter Tryd.func20,Tryd.ntmps20
   go_wp2_with (first
    | (go_at_call 28;refine (a_H.calls _ _ xs _ _ (Kd.a_N HR.out HB0.out) hc HK.out).mono ?_;rintro e w1 ⟨rfl,hb⟩;have HB1:=a_b.mk (HB0.out.trans (hb.mono HB0.out.size));have BT1:=a_b.mk (a_k BT0.out hb);have BC1:=a_b.mk (a_k BC0.out hb);have t1:=(a_l BT1.out 0).trans rfl;have u1:=(a_l BC1.out 0).trans rfl;clear hb;rw [HOK.out])
    | (go_at_call 39;refine (a_Q.calls _ _ xs _ _ _ (Kd.a_N HR.out HB1.out) hc HTH.out).mono ?_;rintro e w2 ⟨rfl,hb⟩;have HB2:=a_b.mk (HB1.out.trans (hb.mono HB1.out.size));have BT2:=a_b.mk (a_k BT1.out hb);have BC2:=a_b.mk (a_k BC1.out hb);have t2:=(a_l BT2.out 0).trans rfl;clear hb;rw [decide_eq_true HIN.out])
    | (go_at_call 41;refine (b_q.calls _ _ _ HCC.out).mono ?_;rintro e w3 ⟨rfl,hd⟩;have hb:=hd.below;have HB3:=a_b.mk (HB2.out.trans (hb.mono HB2.out.size));have BT3:=a_b.mk (a_k BT2.out hb);have BC3:=a_b.mk (a_k BC2.out hb);have t3:=(a_l BT3.out 0).trans rfl;clear hb hd))
   go_ret2
   exact ⟨_,rfl,Kd.d_7 _ _ _ _ _,HB3.out⟩
  rw [if_pos hm] at h
  obtain ⟨rfl,rfl⟩:=Prod.mk.inj h
  have HCC : a_b (b_q.f (m : Int) = some 0):=⟨by unfold b_q.f;rw [if_pos hm]⟩
  have HAL : a_b (b_f.f xs = some ((setN (fun _ => true) xs : Nat) : Int)):=⟨by unfold b_f.f b_r.f;rw [if_pos hl];rfl⟩
  have hM : m < 4294967296:=by omega
  have hS:=d_m (fun _ => true) xs
  have HE : bits .and .u32 (m : Int) ((setN (fun _ => true) xs : Nat) : Int) = ((m &&& setN (fun _ => true) xs : Nat) : Int):=bits_and_u32_nat m _ hM (by omega)
  have HLI : a_b (b_O.f ((m &&& setN (fun _ => true) xs : Nat) : Int) = some (d_j xs m)):=⟨by
   have : m &&& setN (fun _ => true) xs ≤ m:=Nat.and_le_left
   unfold b_O.f d_j
   rw [if_pos (by omega),Int.toNat_natCast]⟩
  unfold g_k
  clear h hm hS
  go_enter Tryd.func20,Tryd.ntmps20
  go_wp2_with (first
   | (go_at_call 28;refine (a_H.calls _ _ xs _ _ (Kd.a_N HR.out HB0.out) hc HK.out).mono ?_;rintro e w1 ⟨rfl,hb⟩;have HB1:=a_b.mk (HB0.out.trans (hb.mono HB0.out.size));have BT1:=a_b.mk (a_k BT0.out hb);have BC1:=a_b.mk (a_k BC0.out hb);have t1:=(a_l BT1.out 0).trans rfl;have u1:=(a_l BC1.out 0).trans rfl;clear hb;rw [HOK.out])
   | (go_at_call 39;refine (a_Q.calls _ _ xs _ _ _ (Kd.a_N HR.out HB1.out) hc HTH.out).mono ?_;rintro e w2 ⟨rfl,hb⟩;have HB2:=a_b.mk (HB1.out.trans (hb.mono HB1.out.size));have BT2:=a_b.mk (a_k BT1.out hb);have BC2:=a_b.mk (a_k BC1.out hb);have t2:=(a_l BT2.out 0).trans rfl;clear hb;rw [decide_eq_true HIN.out])
   | (go_at_call 41;refine (b_q.calls _ _ _ HCC.out).mono ?_;rintro e w3 ⟨rfl,hd⟩;have hb:=hd.below;have HB3:=a_b.mk (HB2.out.trans (hb.mono HB2.out.size));have BT3:=a_b.mk (a_k BT2.out hb);have BC3:=a_b.mk (a_k BC2.out hb);have t3:=(a_l BT3.out 0).trans rfl;clear hb hd)
   | (go_at_call 30;refine (b_f.calls _ _ xs _ _ (Kd.a_N HR.out HB3.out) hc HAL.out).mono ?_;rintro e w4 ⟨rfl,hb⟩;have HB4:=a_b.mk (HB3.out.trans (hb.mono HB3.out.size));have BT4:=a_b.mk (a_k BT3.out hb);have BC4:=a_b.mk (a_k BC3.out hb);clear hb)
   | (simp only [HE])
   | (go_at_call 42;refine (b_O.calls _ _ _ (HT.out.below HB4.out) HLI.out).mono ?_;rintro e w5 ⟨v5,rfl,hR5,hb⟩;obtain ⟨A5,c5,rfl,hc5,_⟩:=Kd.d_a hR5;have HR5:=a_b.mk hR5;have HB5:=a_b.mk hb;clear hR5 hb)
   | (go_at_call 43;refine (d_v 44 #[.pointer (some ⟨w.heap.size,0,none⟩),.pointer (some ⟨w.heap.size + 1,0,none⟩)] (c_M Tryd.func44 (by kernel_rfl) rfl) (fun a b => dN xs a1 a - dN xs a1 b) (fun x => 0 ≤ x ∧ x < (xs.length : Int)) w4 A5 c5 (d_j xs m) (Nat.le_trans (f_O xs m) (by decide)) w5 HR5.out HB5.out g_l (fun W hW x y hx hy => e_A _ _ A c xs a1 x y W (a_k BT4.out hW) (a_k BC4.out hW) (Kd.a_N HR.out (HB4.out.trans (hW.mono HB4.out.size))) hc HIN.out hx hy)).mono ?_;rintro e w6 ⟨rfl,hR6,hb⟩;have HR6:=a_b.mk hR6;have HB6:=a_b.mk (HB4.out.trans (hb.mono HB4.out.size));clear hR6 hb))
  go_ret2
  exact ⟨_,rfl,Kd.b_i HR6.out HB4.out.size,HB6.out⟩
end
end Go.Proofs.YtcpfcehfgenljaaDoor.Q
end
section
namespace Go.Proofs.YtcpfcehfgenljaaDoor.Q
open Go.RowKit Go.Proofs.YtcpfcehfgenljaaDoorW.PrintWords Go.Proofs.YtcpfcehfgenljaaDoorW.PrintLast Go.Proofs.YtcpfcehfgenljaaDoorW.PrintMore
set_option linter.unusedVariables false
set_option linter.unusedSimpArgs false
mutual
def a_n.j0 : Nat → Int → Int → Int → Bool → Option ((List (S56)) × Int)
 | 0,_,_,_,_ => none
 | k + 1,x0,x1,x2,x35 => if x35 = true then (some (([] : List (S56)),2)) else (a_n.l0 k x1 x2 (wrap64 ((wrap64 (x0 * x1)) * x2)) 0 ([] : List (S56)))
def a_n.l0 : Nat → Int → Int → Int → Int → List (S56) → Option ((List (S56)) × Int)
 | 0,_,_,_,_,_ => none
 | k + 1,x1,x2,x41,x42,x121000 => if x42 < x41 then (if x2 = 0 then (none) else (if x1 = 0 then (none) else (if x121000.length < 8796093022208 then (a_n.l0 k x1 x2 x41 (wrap64 (x42 + 1)) (x121000 ++ [(⟨wrap64 (Int.tdiv (wrap64 (Int.tdiv x42 x2)) x1),Int.tmod (wrap64 (Int.tdiv x42 x2)) x1⟩ : S56)])) else (none)))) else (some (x121000,0))
end
def a_n.f (k : Nat) (a0 : Int) (a1 : Int) (a2 : Int) : Option ((List (S56)) × Int):=if a0 < 1 then (a_n.j0 k a0 a1 a2 true) else (if a0 > 4 then (a_n.j0 k a0 a1 a2 true) else (if a1 < 1 then (a_n.j0 k a0 a1 a2 true) else (if a1 > 8 then (a_n.j0 k a0 a1 a2 true) else (if a2 < 1 then (a_n.j0 k a0 a1 a2 true) else (if (wrap64 (a0 * a1)) = 0 then (none) else (a_n.j0 k a0 a1 a2 (decide (a2 > (wrap64 ((8 : Int) / (wrap64 (a0 * a1))))))))))))
theorem a_n.c_i : ∀ k,(∀ y0 y1 y2 y3,LeO (a_n.j0 k y0 y1 y2 y3) (a_n.j0 (k + 1) y0 y1 y2 y3)) ∧ (∀ y0 y1 y2 y3 y4,LeO (a_n.l0 k y0 y1 y2 y3 y4) (a_n.l0 (k + 1) y0 y1 y2 y3 y4))
 | 0 => ⟨fun _ _ _ _ r h => by simp [a_n.j0] at h,fun _ _ _ _ _ r h => by simp [a_n.l0] at h⟩
 | k + 1 => by
  obtain ⟨ih0,ih1⟩:=a_n.c_i k
  refine ⟨?_,?_⟩
  ·intro y0 y1 y2 y3
   unfold a_n.j0
   repeat' first
   | (with_reducible exact ih0 _ _ _ _)
   | (with_reducible exact ih1 _ _ _ _ _)
   | (with_reducible exact LeO.refl _)
   | (with_reducible exact LeO.none _)
   | (with_reducible refine LeO.ite ?_ ?_)
   | (with_reducible refine LeO.bind ?_ (fun _ => ?_))
   | exact ih0 _ _ _ _
   | exact ih1 _ _ _ _ _
   | exact LeO.none _
   | refine LeO.ite ?_ ?_
   | refine LeO.bind ?_ (fun _ => ?_)
  ·intro y0 y1 y2 y3 y4
   unfold a_n.l0
   repeat' first
   | (with_reducible exact ih0 _ _ _ _)
   | (with_reducible exact ih1 _ _ _ _ _)
   | (with_reducible exact LeO.refl _)
   | (with_reducible exact LeO.none _)
   | (with_reducible refine LeO.ite ?_ ?_)
   | (with_reducible refine LeO.bind ?_ (fun _ => ?_))
   | exact ih0 _ _ _ _
   | exact ih1 _ _ _ _ _
   | exact LeO.none _
   | refine LeO.ite ?_ ?_
   | refine LeO.bind ?_ (fun _ => ?_)
theorem a_n.mono : ∀ a0 a1 a2 k,LeO (a_n.f k a0 a1 a2) (a_n.f (k + 1) a0 a1 a2):=by
 intro a0 a1 a2 k
 obtain ⟨ih0,ih1⟩:=a_n.c_i k
 unfold a_n.f
 repeat' first
  | (with_reducible exact ih0 _ _ _ _)
  | (with_reducible exact ih1 _ _ _ _ _)
  | (with_reducible exact LeO.refl _)
  | (with_reducible exact LeO.none _)
  | (with_reducible refine LeO.ite ?_ ?_)
  | (with_reducible refine LeO.bind ?_ (fun _ => ?_))
  | exact ih0 _ _ _ _
  | exact ih1 _ _ _ _ _
  | exact LeO.none _
  | refine LeO.ite ?_ ?_
  | refine LeO.bind ?_ (fun _ => ?_)
def a_n.T7 : Bool × List (List Nat × List Nat):=(true,[([],[]),([0],[0]),([],[]),([],[]),([2,3],[2,3]),([],[]),([4,5],[4,5]),([],[]),([],[]),([7,8],[7,8]),([],[]),([9,10],[9,10]),([6,11],[6,11]),([12],[12]),([1,13],[1,13]),([0,1,2,3,4,5,6,7,8,9,10,11,12,13,14],[]),([15,14,14,0,1,2,3,4,5,6,7,8,9,10,11,12,13,14],[14,15])])
def a_n.B7 : List Nat:=[0,1,0,0,12,0,60,0,0,384,0,1920,4092,8188,16383,32767,65535]
theorem a_n.tab7 : rtab .any (opsOf Tryd.f26 7) = a_n.T7:=by kernel_rfl
theorem a_n.h_0 : c_y a_n.T7.2 a_n.B7 = true:=by kernel_rfl
set_option maxHeartbeats 8000000 in
set_option maxRecDepth 100000 in
theorem a_n.calls (k : Nat) (a0 : Int) (a1 : Int) (a2 : Int) (r1 : List (S56)) (r2 : Int) (w : World) (h : a_n.f k a0 a1 a2 = some (r1,r2)) :
 Calls Tryd.prog 26 #[.int .i64 a0,.int .i64 a1,.int .i64 a2] w fun e w' => ∃ v0_ : Value,e = .returned (.tuple #[.agg #[v0_],.int .i64 r2]) ∧ Kd.R k56 56 w' w.heap.size (fun _ => True) v0_ r1 ∧ Below w.heap.size w w':=by
 have hu24:=Tryd.underlying24
 have hu56:=Tryd.underlying56
 have HB:=a_b.mk (Below.refl w.heap.size w)
 have H : (if a0 < 1 then (a_n.j0 k a0 a1 a2 true) else (if a0 > 4 then (a_n.j0 k a0 a1 a2 true) else (if a1 < 1 then (a_n.j0 k a0 a1 a2 true) else (if a1 > 8 then (a_n.j0 k a0 a1 a2 true) else (if a2 < 1 then (a_n.j0 k a0 a1 a2 true) else (if (wrap64 (a0 * a1)) = 0 then (none) else (a_n.j0 k a0 a1 a2 (decide (a2 > (wrap64 ((8 : Int) / (wrap64 (a0 * a1))))))))))))) = some (r1,r2):=h
 clear h
 have HC4:=a_b.mk H
 clear H
 go_enter Tryd.func26,Tryd.ntmps26
 go_upto_region 2 with (first|((with_reducible refine a_D (N:=6) rfl ?_);refine a_A ?hg (N:=6) ?hd (cs:=#[.slice none 0 0]) (t:=24) ?hr ?_;(case hd => rfl);(case hg => rfl);(case hr => first|(go_simp;done)|(go_simp;rfl));intro c_2 hg w5 hbox hb;have b_N:=a_b.mk (hbox);have j_A:=a_b.mk ((by rw [hg];exact (a_g (lup_ HB.out)) : w.heap.size ≤ c_2));have c_u:=a_b.mk ((by rw [hg];exact (a_g (lup_ HB.out)) : w.heap.size ≤ c_2));replace HB:=a_b.mk (a_h (lup_ HB.out) hb);clear hb hbox hg)|((with_reducible refine a_D (N:=8) rfl ?_);refine a_A ?hg (N:=8) ?hd (cs:=#[.slice none 0 0]) (t:=24) ?hr ?_;(case hd => rfl);(case hg => rfl);(case hr => first|(go_simp;done)|(go_simp;rfl));intro c_3 hg w6 hbox hb;have b_R:=a_b.mk (hbox);have j_B:=a_b.mk ((by rw [hg];exact (a_g (by repeat (first|(with_reducible first|exact HB.out|apply a_e|apply a_c|apply a_f|refine a_d ?_ c_u.out)|exact HB.out))) : w.heap.size ≤ c_3));have c_1:=a_b.mk ((by rw [hg];exact (a_g (by repeat (first|(with_reducible first|exact HB.out|apply a_e|apply a_c|apply a_f|refine a_d ?_ c_u.out)|exact HB.out))) : w.heap.size ≤ c_3));have c_z:=a_b.mk ((by rw [hg];exact Nat.ne_of_lt (a_1 (bup_ b_N.out)) : c_2 ≠ c_3));have c_9:=a_b.mk ((by rw [hg];exact Nat.ne_of_gt (a_1 (bup_ b_N.out)) : c_3 ≠ c_2));replace b_N:=a_b.mk (a_k (bup_ b_N.out) hb);replace HB:=a_b.mk (a_h (by repeat (first|(with_reducible first|exact HB.out|apply a_e|apply a_c|apply a_f|refine a_d ?_ c_u.out)|exact HB.out)) hb);clear hb hbox hg))
 (try simp only [Act.put,sa_,sb_,sc_])
 go_cut [35] (fun v35 wc => ∃ (kq : Nat) (x35_3 : Bool),v35 = .bool x35_3 ∧ a_b (a_n.j0 kq a0 a1 a2 x35_3 = some (r1,r2)) ∧ a_b (kq ≤ k) ∧ a_b (wc.heap[c_2]? = some (.cells #[(.slice none 0 0)] 24 (0,0))) ∧ a_b (wc.heap[c_3]? = some (.cells #[(.slice none 0 0)] 24 (0,0))) ∧ a_b (Below w.heap.size w wc))
 case first =>
  have H:=HC4.out
  clear HC4
  by_cases c7 : a0 < 1
  ·rw [if_pos c7] at H
   have c7b0 : decide (a0 < 1) = true:=decide_eq_true c7
   clear c7
   (first|rw [c7b0]|(simp only [b_Q,b_P];rw [c7b0])|skip)
   have H':=a_b.mk H
   clear H
   go_wp2
   go_meet
   case rel => exact ⟨_,(true),(by first|rfl|(simp;done)|(simp [*];done)|(simp [Int.tdiv_eq_ediv_of_nonneg (show (0 : Int) ≤ 8 by decide)];done)),H',⟨by first|omega|exact Nat.le_refl _⟩,⟨by (with_reducible repeat (first|refine a_m ?_ _|refine a_o ?_|refine a_j ?_ _));exact b_N.out⟩,⟨by (with_reducible repeat (first|refine a_m ?_ _|refine a_o ?_|refine a_j ?_ _));exact b_R.out⟩,⟨by repeat (first|(with_reducible first|exact HB.out|apply a_e|apply a_c|apply a_f|refine a_d ?_ c_u.out|refine a_d ?_ c_1.out)|exact HB.out)⟩⟩
  rw [if_neg c7] at H
  have c7b0 : decide (a0 < 1) = false:=decide_eq_false c7
  clear c7
  (first|rw [c7b0]|(simp only [b_Q,b_P];rw [c7b0])|skip)
  by_cases c8 : a0 > 4
  ·rw [if_pos c8] at H
   have c8b0 : decide (4 < a0) = true:=decide_eq_true c8
   clear c8
   have H':=a_b.mk H
   clear H
   go_wp2
   go_meet
   case rel => exact ⟨_,(true),(by first|rfl|(simp;done)|(simp [*];done)|(simp [Int.tdiv_eq_ediv_of_nonneg (show (0 : Int) ≤ 8 by decide)];done)),H',⟨by first|omega|exact Nat.le_refl _⟩,⟨by (with_reducible repeat (first|refine a_m ?_ _|refine a_o ?_|refine a_j ?_ _));exact b_N.out⟩,⟨by (with_reducible repeat (first|refine a_m ?_ _|refine a_o ?_|refine a_j ?_ _));exact b_R.out⟩,⟨by repeat (first|(with_reducible first|exact HB.out|apply a_e|apply a_c|apply a_f|refine a_d ?_ c_u.out|refine a_d ?_ c_1.out)|exact HB.out)⟩⟩
  rw [if_neg c8] at H
  have c8b0 : decide (4 < a0) = false:=decide_eq_false c8
  clear c8
  by_cases c9 : a1 < 1
  ·rw [if_pos c9] at H
   have c9b0 : decide (a1 < 1) = true:=decide_eq_true c9
   clear c9
   have H':=a_b.mk H
   clear H
   go_wp2
   go_meet
   case rel => exact ⟨_,(true),(by first|rfl|(simp;done)|(simp [*];done)|(simp [Int.tdiv_eq_ediv_of_nonneg (show (0 : Int) ≤ 8 by decide)];done)),H',⟨by first|omega|exact Nat.le_refl _⟩,⟨by (with_reducible repeat (first|refine a_m ?_ _|refine a_o ?_|refine a_j ?_ _));exact b_N.out⟩,⟨by (with_reducible repeat (first|refine a_m ?_ _|refine a_o ?_|refine a_j ?_ _));exact b_R.out⟩,⟨by repeat (first|(with_reducible first|exact HB.out|apply a_e|apply a_c|apply a_f|refine a_d ?_ c_u.out|refine a_d ?_ c_1.out)|exact HB.out)⟩⟩
  rw [if_neg c9] at H
  have c9b0 : decide (a1 < 1) = false:=decide_eq_false c9
  clear c9
  by_cases c10 : a1 > 8
  ·rw [if_pos c10] at H
   have c10b0 : decide (8 < a1) = true:=decide_eq_true c10
   clear c10
   have H':=a_b.mk H
   clear H
   go_wp2
   go_meet
   case rel => exact ⟨_,(true),(by first|rfl|(simp;done)|(simp [*];done)|(simp [Int.tdiv_eq_ediv_of_nonneg (show (0 : Int) ≤ 8 by decide)];done)),H',⟨by first|omega|exact Nat.le_refl _⟩,⟨by (with_reducible repeat (first|refine a_m ?_ _|refine a_o ?_|refine a_j ?_ _));exact b_N.out⟩,⟨by (with_reducible repeat (first|refine a_m ?_ _|refine a_o ?_|refine a_j ?_ _));exact b_R.out⟩,⟨by repeat (first|(with_reducible first|exact HB.out|apply a_e|apply a_c|apply a_f|refine a_d ?_ c_u.out|refine a_d ?_ c_1.out)|exact HB.out)⟩⟩
  rw [if_neg c10] at H
  have c10b0 : decide (8 < a1) = false:=decide_eq_false c10
  clear c10
  by_cases c11 : a2 < 1
  ·rw [if_pos c11] at H
   have c11b0 : decide (a2 < 1) = true:=decide_eq_true c11
   clear c11
   have H':=a_b.mk H
   clear H
   go_wp2
   go_meet
   case rel => exact ⟨_,(true),(by first|rfl|(simp;done)|(simp [*];done)|(simp [Int.tdiv_eq_ediv_of_nonneg (show (0 : Int) ≤ 8 by decide)];done)),H',⟨by first|omega|exact Nat.le_refl _⟩,⟨by (with_reducible repeat (first|refine a_m ?_ _|refine a_o ?_|refine a_j ?_ _));exact b_N.out⟩,⟨by (with_reducible repeat (first|refine a_m ?_ _|refine a_o ?_|refine a_j ?_ _));exact b_R.out⟩,⟨by repeat (first|(with_reducible first|exact HB.out|apply a_e|apply a_c|apply a_f|refine a_d ?_ c_u.out|refine a_d ?_ c_1.out)|exact HB.out)⟩⟩
  rw [if_neg c11] at H
  have c11b0 : decide (a2 < 1) = false:=decide_eq_false c11
  clear c11
  by_cases c12 : (wrap64 (a0 * a1)) = 0
  ·rw [if_pos c12] at H
   exact absurd H (by simp)
  rw [if_neg c12] at H
  have c12b0 : ((wrap64 (a0 * a1)) == 0) = false:=beq_eq_false_iff_ne.mpr c12
  have c12b1 : ((wrap64 (a0 * a1)) != 0) = true:=bne_iff_ne.mpr c12
  have H':=a_b.mk H
  clear H
  go_wp2
  go_meet
  case rel => exact ⟨_,(decide (a2 > (wrap64 ((8 : Int) / (wrap64 (a0 * a1)))))),(by first|rfl|(simp;done)|(simp [*];done)|(simp [Int.tdiv_eq_ediv_of_nonneg (show (0 : Int) ≤ 8 by decide)];done)),H',⟨by first|omega|exact Nat.le_refl _⟩,⟨by (with_reducible repeat (first|refine a_m ?_ _|refine a_o ?_|refine a_j ?_ _));exact b_N.out⟩,⟨by (with_reducible repeat (first|refine a_m ?_ _|refine a_o ?_|refine a_j ?_ _));exact b_R.out⟩,⟨by repeat (first|(with_reducible first|exact HB.out|apply a_e|apply a_c|apply a_f|refine a_d ?_ c_u.out|refine a_d ?_ c_1.out)|exact HB.out)⟩⟩
 case rest =>
  clear HC4
  try clear c1
  try clear c2
  try clear p2
  try clear p6
  try clear c7
  try clear c7b0
  try clear c8
  try clear c8b0
  try clear c9
  try clear c9b0
  try clear c10
  try clear c10b0
  try clear c11
  try clear c11b0
  try clear c12
  try clear c12b0
  try clear c12b1
  obtain ⟨kq,x35_3,rfl,HA,HJ3,b_N,b_R,HB⟩:=hcut
  cases kq with
  | zero => exact absurd HA.out (by simp [a_n.j0])
  | succ kj3 =>
   have H:=HA.out
   clear HA
   simp only [a_n.j0] at H
   by_cases c13 : x35_3 = true
   ·subst c13
    have H1 : (some (([] : List (S56)),2)) = some (r1,r2):=by rw [if_pos rfl] at H;exact H
    clear H
    have H:=H1
    clear H1
    simp only [Option.some.injEq,Prod.mk.injEq] at H
    obtain ⟨rfl,rfl⟩:=H
    have j_I:=c_9.out
    have j_8:=c_z.out
    have f_x : wc.cell? ⟨c_3,0,none⟩ = some (.slice none 0 0):=(a_l b_R.out 0).trans rfl
    have f_E:=a_i b_R.out 0
    have c_w : wc.cell? ⟨c_2,0,none⟩ = some (.slice none 0 0):=(a_l b_N.out 0).trans rfl
    have c_x:=a_i b_N.out 0
    go_wp2
    refine bodyPost_ret (d_J rfl _ _ c_2 24 #[.slice none 0 0] (0,0) _ rfl (by (with_reducible repeat (first|refine a_m ?_ _|refine a_o ?_|refine a_j ?_ _));refine b_d (cs:=#[.slice none 0 0]) ?_ 0 _ rfl;(with_reducible repeat (first|refine a_m ?_ _|refine a_o ?_|refine a_j ?_ _));exact b_N.out) Tryd.underlying24 rfl (by kernel_rfl)) rfl ?_
    exact ⟨_,by first|rfl|(simp [a_p,a_q] <;> rfl)|(simp [*, a_p,a_q] <;> rfl),by first|exact Kd.d_7 _ _ _ _ _|exact Kd.h_l _ _ _ _ _|exact Kd.h_s _ _ _ _ _|exact Kd.h_n _ _ _ _ _|exact Kd.h_r _ _ _ _ _,by repeat (first|(with_reducible first|exact HB.out|apply a_e|apply a_c|apply a_f|refine a_d ?_ c_u.out|refine a_d ?_ c_1.out)|exact HB.out)⟩
   replace c13:=Bool.eq_false_iff.mpr c13
   subst c13
   have H1 : (a_n.l0 kj3 a1 a2 (wrap64 ((wrap64 (a0 * a1)) * a2)) 0 ([] : List (S56))) = some (r1,r2):=by rw [if_neg (show ¬ (false = true) by decide)] at H;exact H
   clear H
   have H:=H1
   clear H1
   have H':=a_b.mk H
   clear H
   go_wp2
   go_loopg [42] kj3 (fun kq v42 w' => ∃ (x42_2 : Int) (x121000_2 : List (S56)) (u121000 : Value),v42 = .int .i64 x42_2 ∧ a_b (a_n.l0 kq a1 a2 (wrap64 ((wrap64 (a0 * a1)) * a2)) x42_2 x121000_2 = some (r1,r2)) ∧ a_b (kq ≤ kj3) ∧ a_b (Kd.R k56 56 w' w.heap.size (fun _ => True) u121000 x121000_2) ∧ a_b (w'.heap[c_2]? = some (.cells #[(.slice none 0 0)] 24 (0,0))) ∧ a_b (w'.heap[c_3]? = some (.cells #[u121000] 24 (0,0))) ∧ a_b (Below w.heap.size w w'))
   case atStart => exact ⟨(0),(([] : List (S56))),(.slice none 0 0),(by first|rfl|(simp;done)|(simp [*];done)|(simp [Int.tdiv_eq_ediv_of_nonneg (show (0 : Int) ≤ 8 by decide)];done)),H',⟨Nat.le_refl _⟩,⟨by first|exact Kd.d_7 _ _ _ _ _|exact Kd.h_l _ _ _ _ _|exact Kd.h_s _ _ _ _ _|exact Kd.h_n _ _ _ _ _|exact Kd.h_r _ _ _ _ _⟩,⟨by (with_reducible repeat (first|refine a_m ?_ _|refine a_o ?_|refine a_j ?_ _));exact b_N.out⟩,⟨by (with_reducible repeat (first|refine a_m ?_ _|refine a_o ?_|refine a_j ?_ _));exact b_R.out⟩,⟨by repeat (first|(with_reducible first|exact HB.out|apply a_e|apply a_c|apply a_f|refine a_d ?_ c_u.out|refine a_d ?_ c_1.out)|exact HB.out)⟩⟩
   case round =>
    clear H'
    try clear c1
    try clear c2
    try clear p2
    try clear p6
    try clear c7
    try clear c7b0
    try clear c8
    try clear c8b0
    try clear c9
    try clear c9b0
    try clear c10
    try clear c10b0
    try clear c11
    try clear c11b0
    try clear c12
    try clear c12b0
    try clear c12b1
    try clear c13
    try clear c14
    try clear f_x
    try clear c_w
    try clear f_E
    try clear c_x
    try clear p2
    try clear p6
    obtain ⟨x42_2,x121000_2,u121000,rfl,HA,HK2,b_J,b_N,b_R,HB⟩:=hrel
    cases gk with
    | zero => exact absurd HA.out (by simp [a_n.l0])
    | succ k2 =>
     have H:=HA.out
     clear HA
     simp only [a_n.l0] at H
     by_cases c17 : x42_2 < (wrap64 ((wrap64 (a0 * a1)) * a2))
     rotate_left
     ·rw [if_neg c17] at H
      have c17b0 : decide (x42_2 < (wrap64 ((wrap64 (a0 * a1)) * a2))) = false:=decide_eq_false c17
      clear c17
      simp only [Option.some.injEq,Prod.mk.injEq] at H
      obtain ⟨rfl,rfl⟩:=H
      have j_N:=c_9.out
      have k_e:=c_z.out
      have i_l : wr.cell? ⟨c_3,0,none⟩ = some (u121000):=(a_l b_R.out 0).trans rfl
      have i_S:=a_i b_R.out 0
      obtain ⟨Ao27,co27,eo27⟩:=Kd.b_E b_J.out
      subst eo27
      have f_z : wr.cell? ⟨c_2,0,none⟩ = some (.slice none 0 0):=(a_l b_N.out 0).trans rfl
      have f_G:=a_i b_N.out 0
      go_wp2
      refine bodyPost_ret (d_J rfl _ _ c_2 24 #[.slice Ao27 x121000_2.length co27] (0,0) _ rfl (by (with_reducible repeat (first|refine a_m ?_ _|refine a_o ?_|refine a_j ?_ _));refine b_d (cs:=#[.slice none 0 0]) ?_ 0 _ rfl;(with_reducible repeat (first|refine a_m ?_ _|refine a_o ?_|refine a_j ?_ _));exact b_N.out) Tryd.underlying24 rfl (by kernel_rfl)) rfl ?_
      exact ⟨_,by first|rfl|(simp [a_p,a_q] <;> rfl)|(simp [*, a_p,a_q] <;> rfl),by (with_reducible repeat (first|apply Kd.a_K|apply Kd.a_L|apply Kd.a_T));exact Kd.b_u (Kd.b_1 (p:=⟨c_2,0,none⟩) (Kd.b_j b_J.out b_N.out (by decide)) (fun _ hk => hk.2) (.slice Ao27 x121000_2.length co27)) (fun _ hk => trivial),by repeat (first|(with_reducible first|exact HB.out|apply a_e|apply a_c|apply a_f|refine a_d ?_ c_u.out|refine a_d ?_ c_1.out)|exact HB.out)⟩
     rw [if_pos c17] at H
     have c17b0 : decide (x42_2 < (wrap64 ((wrap64 (a0 * a1)) * a2))) = true:=decide_eq_true c17
     clear c17
     by_cases c18 : a2 = 0
     ·rw [if_pos c18] at H
      exact absurd H (by simp)
     rw [if_neg c18] at H
     have c18b0 : (a2 == 0) = false:=beq_eq_false_iff_ne.mpr c18
     have c18b1 : (a2 != 0) = true:=bne_iff_ne.mpr c18
     by_cases c19 : a1 = 0
     ·rw [if_pos c19] at H
      exact absurd H (by simp)
     rw [if_neg c19] at H
     have c19b0 : (a1 == 0) = false:=beq_eq_false_iff_ne.mpr c19
     have c19b1 : (a1 != 0) = true:=bne_iff_ne.mpr c19
     by_cases c20 : x121000_2.length < 8796093022208
     rotate_left
     ·rw [if_neg c20] at H
      exact absurd H (by simp)
     rw [if_pos c20] at H
     have LMc20:=a_b.mk c20
     clear c20
     obtain ⟨y121,hy121⟩ : ∃ y_ : List (S56),y_ = (x121000_2 ++ [(⟨wrap64 (Int.tdiv (wrap64 (Int.tdiv x42_2 a2)) a1),Int.tmod (wrap64 (Int.tdiv x42_2 a2)) a1⟩ : S56)]):=⟨_,rfl⟩
     replace H : (a_n.l0 k2 a1 a2 (wrap64 ((wrap64 (a0 * a1)) * a2)) (wrap64 (x42_2 + 1)) y121) = some (r1,r2):=by first|(rw [hy121];with_reducible exact H)|(have H2_:=(Option.bind_some _ _).symm.trans H;rw [hy121];with_reducible exact H2_)|(have H2_:=(Option.bind_some _ _).symm.trans H;with_reducible exact H2_)|with_reducible exact H|(rw [hy121];exact H)|exact H
     have Ny121:=a_b.mk hy121
     clear hy121
     have H':=a_b.mk H
     clear H
     try go_wp2
     replace b_J:=a_b.mk (Kd.a_T b_J.out)
     replace b_N:=a_b.mk (a_o b_N.out)
     replace b_R:=a_b.mk (a_o b_R.out)
     replace HB:=a_b.mk (a_f HB.out)
     refine e_O (n:=17) (S:=fun w' => w'.cell? ⟨c_3,0,none⟩ = some (u121000)) (ds:=[16]) #[F_,F_,F_,F_,F_,F_,F_,F_,F_,F_,F_,F_,F_,F_,F_,F_,F_] (by kernel_rfl) rfl rfl ((a_l b_R.out 0).trans rfl) (fun hHeld => ?_);refine c_G a_n.tab7 a_n.h_0 (fun HT_ HW_ => ?_)
     generalize wr.drew = w21 at b_J b_N b_R HB hHeld ⊢
     refine pt_ 0 (some 45) #[T_,F_,F_,F_,F_,F_,F_,F_,F_,F_,F_,F_,F_,F_,F_,F_,F_] HT_ ?_
     refine pt_ 2 (some 47) #[T_,F_,T_,F_,F_,F_,F_,F_,F_,F_,F_,F_,F_,F_,F_,F_,F_] HT_ ?_
     refine pt_ 3 (some 48) #[T_,F_,T_,T_,F_,F_,F_,F_,F_,F_,F_,F_,F_,F_,F_,F_,F_] HT_ ?_
     refine pt_ 4 (some 49) #[T_,F_,T_,T_,T_,F_,F_,F_,F_,F_,F_,F_,F_,F_,F_,F_,F_] HT_ ?_
     refine pt_ 5 (some 50) #[T_,F_,T_,T_,T_,T_,F_,F_,F_,F_,F_,F_,F_,F_,F_,F_,F_] HT_ ?_
     refine pt_ 6 (some 51) #[T_,F_,T_,T_,T_,T_,T_,F_,F_,F_,F_,F_,F_,F_,F_,F_,F_] HT_ ?_
     refine pt_ 7 (some 52) #[T_,F_,T_,T_,T_,T_,T_,T_,F_,F_,F_,F_,F_,F_,F_,F_,F_] HT_ ?_
     refine pt_ 8 (some 53) #[T_,F_,T_,T_,T_,T_,T_,T_,T_,F_,F_,F_,F_,F_,F_,F_,F_] HT_ ?_
     refine pt_ 9 (some 54) #[T_,F_,T_,T_,T_,T_,T_,T_,T_,T_,F_,F_,F_,F_,F_,F_,F_] HT_ ?_
     refine pt_ 10 (some 55) #[T_,F_,T_,T_,T_,T_,T_,T_,T_,T_,T_,F_,F_,F_,F_,F_,F_] HT_ ?_
     refine pt_ 11 (some 56) #[T_,F_,T_,T_,T_,T_,T_,T_,T_,T_,T_,T_,F_,F_,F_,F_,F_] HT_ ?_
     refine pt_ 12 (some 57) #[T_,F_,T_,T_,T_,T_,T_,T_,T_,T_,T_,T_,T_,F_,F_,F_,F_] HT_ ?_
     refine d_x (i:=1) (N:=some 46) (v:=?_) (a':=?_) #[T_,T_,T_,T_,T_,T_,T_,T_,T_,T_,T_,T_,T_,F_,F_,F_,F_] rfl rfl (b_4 HT_.out HW_.out (by kernel_rfl)) (fun _ _ _ h => h) (Or.inl ⟨by rfl,?_⟩) hHeld ?_ ?_
     rotate_left
     ·intro w' s0
      go_simp
      with_reducible rfl
     rotate_left
     ·simp only [Act.put,sa_,sb_,sc_,b_Q,b_P]
      rfl
     refine one_ (i:=13) (N:=some 58) #[T_,T_,T_,T_,T_,T_,T_,T_,T_,T_,T_,T_,T_,T_,F_,F_,F_] rfl rfl (c_q HT_.out (by kernel_rfl)) (by decide) (fun K hK => ?_)
     refine h_M (w1:=?_) (v:=?_) (by rfl) rfl ?_ ?_
     rotate_left 2
     ·go_simp
      constructor
      ·rfl
      rfl
     refine hK.out _ _ ((a_l (a_j b_R.out _) 0).trans rfl) (fun hHeld => ?_)
     clear hK K
     refine c_4 (a':=?_) ?_ ?_
     rotate_left
     ·show Act.put _ (some 58) _ = _
      simp only [Act.put,sa_,sb_,sc_,b_Q,b_P]
      rfl
     refine one_ (i:=14) (N:=some 59) #[T_,T_,T_,T_,T_,T_,T_,T_,T_,T_,T_,T_,T_,T_,T_,F_,F_] rfl rfl (c_q HT_.out (by kernel_rfl)) (by decide) (fun K hK => ?_)
     refine Kd.d_N k56 (w0:=w) w.heap.size (by rfl) (.tmp 46) (.tmp 58) 22 56 (.agg #[(.int .i64 0),(.int .i64 0)]) 16 rfl Tryd.underlying22 f_M rfl (by decide) (by omega) u121000 x121000_2 (⟨wrap64 (Int.tdiv (wrap64 (Int.tdiv x42_2 a2)) a1),Int.tmod (wrap64 (Int.tdiv x42_2 a2)) a1⟩ : S56) [.int .i64 (wrap64 (Int.tdiv (wrap64 (Int.tdiv x42_2 a2)) a1)),.int .i64 (Int.tmod (wrap64 (Int.tdiv x42_2 a2)) a1)] (fun _ => True) (fun _ => False) rfl rfl ?aP (fun _ hk => hk.elim) ?aF ?aO ?aB ?aS ?aL ?_
     (case aP => exact g_2 _ _ _ (⟨wrap64 (Int.tdiv (wrap64 (Int.tdiv x42_2 a2)) a1),Int.tmod (wrap64 (Int.tdiv x42_2 a2)) a1⟩ : S56))
     (case aB => exact (by repeat (first|(with_reducible first|exact HB.out|apply a_e|apply a_c|apply a_f|refine a_d ?_ c_u.out|refine a_d ?_ c_1.out)|exact HB.out)))
     (case aF => exact (fun _ _ => trivial))
     (case aO => exact (rup_ b_J.out))
     (case aS => exact (a_g (by repeat (first|(with_reducible first|exact HB.out|apply a_e|apply a_c|apply a_f|refine a_d ?_ c_u.out|refine a_d ?_ c_1.out)|exact HB.out))))
     (case aL => have:=LMc20.out;omega)
     intro v122 w22 ho hb hg hat
     rw [← Ny121.out] at ho
     have h_i:=a_b.mk (ho)
     replace b_N:=a_b.mk (c_A (g:=c_2) (o:=.cells #[.slice none 0 0] 24 (0,0)) (bup_ b_N.out) hg (Kd.R_ne b_J.out b_N.out (by decide)))
     replace b_R:=a_b.mk (c_A (g:=c_3) (o:=.cells #[u121000] 24 (0,0)) (bup_ b_R.out) hg (Kd.R_ne b_J.out b_R.out (by decide)))
     replace HB:=a_b.mk (hb)
     clear b_J ho hb hg hat
     obtain ⟨Ao23,co23,eo23⟩:=Kd.b_E h_i.out
     (first|subst eo23|(injection eo23 with f1_ f2_ f3_;have f4_:=f1_.symm;have f5_:=f3_.symm;clear f1_ f2_ f3_;subst f4_;subst f5_))
     refine hK.out _ _ ((a_l b_R.out 0).trans rfl) (fun hHeld => ?_)
     clear hK K
     refine c_4 (a':=?_) ?_ ?_
     rotate_left
     ·show Act.put _ (some 59) _ = _
      simp only [Act.put,sa_,sb_,sc_,b_Q,b_P]
      rfl
     refine pt_ 15 (some 60) #[T_,T_,T_,T_,T_,T_,T_,T_,T_,T_,T_,T_,T_,T_,T_,T_,F_] HT_ ?_
     refine j_m (i:=16) (N:=none) #[T_,T_,T_,T_,T_,T_,T_,T_,T_,T_,T_,T_,T_,T_,T_,T_,T_] rfl rfl (c_q HT_.out (by kernel_rfl)) (by decide) (fun K hK => ?_)
     have hs24 : w22.cell? ⟨c_3,0,none⟩ = some (u121000):=(a_l b_R.out 0).trans rfl
     have hfs24:=a_i b_R.out 0
     have hns24_0:=c_z.out
     have hms24_0:=c_9.out
     refine g_8 (w1:=?_) (by rfl) rfl ?_ ?_
     rotate_left
     ·go_simp
      rfl
     refine hK.out _ _ ?_
     clear hK K
     refine g_a (d_S HT_.out (by kernel_rfl)) ?_
     try go_wp2
     go_roundg k2
     case measure => have:=HJ3.out;have:=HK2.out;omega
     case rel => exact ⟨(wrap64 (x42_2 + 1)),(y121),(.slice Ao23 y121.length co23),(by first|rfl|(simp;done)|(simp [*];done)|(simp [Int.tdiv_eq_ediv_of_nonneg (show (0 : Int) ≤ 8 by decide)];done)),H',⟨by have:=HJ3.out;have:=HK2.out;omega⟩,⟨by (with_reducible repeat (first|apply Kd.a_K|apply Kd.a_L|apply Kd.a_T));exact Kd.b_u (Kd.b_1 (p:=⟨c_3,0,none⟩) (Kd.b_j h_i.out b_R.out (by decide)) (fun _ hk => hk.2) (.slice Ao23 y121.length co23)) (fun _ hk => trivial)⟩,⟨by (with_reducible repeat (first|refine a_m ?_ _|refine a_o ?_|refine a_j ?_ _));refine b_t ?_ c_z.out _;(with_reducible repeat (first|refine a_m ?_ _|refine a_o ?_|refine a_j ?_ _));exact b_N.out⟩,⟨by (with_reducible repeat (first|refine a_m ?_ _|refine a_o ?_|refine a_j ?_ _));refine b_d (cs:=#[u121000]) ?_ 0 _ rfl;(with_reducible repeat (first|refine a_m ?_ _|refine a_o ?_|refine a_j ?_ _));exact b_R.out⟩,⟨by repeat (first|(with_reducible first|exact HB.out|apply a_e|apply a_c|apply a_f|refine a_d ?_ c_u.out|refine a_d ?_ c_1.out)|exact HB.out)⟩⟩
end Go.Proofs.YtcpfcehfgenljaaDoor.Q
end
section
namespace Go.Proofs.YtcpfcehfgenljaaDoor.Q
open Go.RowKit Go.Proofs.YtcpfcehfgenljaaDoorW.PrintWords Go.Proofs.YtcpfcehfgenljaaDoorW.PrintLast Go.Proofs.YtcpfcehfgenljaaDoorW.PrintMore
set_option linter.unusedVariables false
set_option linter.unusedSimpArgs false
def a_0.f (l0_0 : List (S56)) (a1 : Int) : Option (Int):=(b_e.f l0_0 a1).bind fun t126 => (some t126)
set_option maxHeartbeats 8000000 in
set_option maxRecDepth 100000 in
theorem a_0.calls (A0_0 : Option Addr) (c0_0 : Nat) (l0_0 : List (S56)) (a1 : Int) (r : Int) (w : World) (hr0_0 : Kd.C k56 w A0_0 l0_0.length l0_0) (hc0_0 : l0_0.length ≤ c0_0) (h : a_0.f l0_0 a1 = some r) :
 Calls Tryd.prog 29 #[.agg #[.slice A0_0 l0_0.length c0_0],.int .i64 a1] w fun e w' => e = .returned (.int .u32 r) ∧ Below w.heap.size w w':=by
 have hu24:=Tryd.underlying24
 have b_M:=a_b.mk hr0_0
 have b_S:=a_b.mk hc0_0
 clear hr0_0 hc0_0
 have HB:=a_b.mk (Below.refl w.heap.size w)
 have H : ((b_e.f l0_0 a1).bind fun t126 => (some t126)) = some r:=h
 clear h
 replace H:=Option.bind_eq_some_iff.mp H
 obtain ⟨t126,A30,H⟩:=H
 replace H : (some t126) = some r:=H
 have A3:=a_b.mk A30
 clear A30
 obtain rfl:=Option.some.inj H
 go_enter Tryd.func29,Tryd.ntmps29
 go_wp2_with (first|((with_reducible refine a_D (N:=2) rfl ?_);refine a_A ?hg (N:=2) ?hd (cs:=#[.slice A0_0 l0_0.length c0_0]) (t:=24) ?hr ?_;(case hd => rfl);(case hg => rfl);(case hr => first|(go_simp;done)|(go_simp;rfl));intro f_v hg w4 hbox hb;have d_4:=a_b.mk (hbox);have j_C:=a_b.mk ((by rw [hg];exact (a_g (lup_ HB.out)) : w.heap.size ≤ f_v));have f_a:=a_b.mk ((by rw [hg];exact (a_g (lup_ HB.out)) : w.heap.size ≤ f_v));replace HB:=a_b.mk (a_h (lup_ HB.out) hb);clear hb hbox hg)|((with_reducible refine a_D (N:=3) rfl ?_);refine a_A ?hg (N:=3) ?hd (cs:=#[.int .i64 a1]) (t:=3) ?hr ?_;(case hd => rfl);(case hg => rfl);(case hr => first|(go_simp;done)|(go_simp;rfl));intro e_0 hg w5 hbox hb;have g_C:=a_b.mk (hbox);have j_D:=a_b.mk ((by rw [hg];exact (a_g (by repeat (first|(with_reducible first|exact HB.out|apply a_e|apply a_c|apply a_f|refine a_d ?_ f_a.out)|exact HB.out))) : w.heap.size ≤ e_0));have h_g:=a_b.mk ((by rw [hg];exact (a_g (by repeat (first|(with_reducible first|exact HB.out|apply a_e|apply a_c|apply a_f|refine a_d ?_ f_a.out)|exact HB.out))) : w.heap.size ≤ e_0));have f_c:=a_b.mk ((by rw [hg];exact Nat.ne_of_lt (a_1 (bup_ d_4.out)) : f_v ≠ e_0));have f_d:=a_b.mk ((by rw [hg];exact Nat.ne_of_gt (a_1 (bup_ d_4.out)) : e_0 ≠ f_v));replace d_4:=a_b.mk (a_k (bup_ d_4.out) hb);replace HB:=a_b.mk (a_h (by repeat (first|(with_reducible first|exact HB.out|apply a_e|apply a_c|apply a_f|refine a_d ?_ f_a.out)|exact HB.out)) hb);clear hb hbox hg;have hnb6:=f_c.out;have hnc6:=f_d.out;have g_y : w5.cell? ⟨f_v,0,none⟩ = some (.slice A0_0 l0_0.length c0_0):=(a_l d_4.out 0).trans rfl;have g_A:=a_i d_4.out 0)|((with_reducible refine a_s (f:=48) rfl ?_);refine a_O (some 7) rfl rfl Tryd.func48 (by kernel_rfl) rfl #[.agg #[.slice A0_0 l0_0.length c0_0],.func (.func 49) #[] #[.pointer (some ⟨e_0,0,none⟩)]] rfl (by (try simp only [List.map_toArray,List.map_cons,List.map_nil]);first|done|rfl|(simp only [List.length_drop,List.length_take];rfl)) ?_;(with_reducible refine (b_e.calls _ _ l0_0 e_0 a1 t126 _ ?side1 ?side2 ?side3 A3.out).mono ?_);(case side1 => repeat (first|exact (Kd.a_N b_M.out HB.out)|(with_reducible refine Kd.a_I ?_ _)|(with_reducible refine Kd.a_J ?_ _)|(with_reducible refine Kd.a_X ?_)));(case side2 => exact b_S.out);(case side3 => exact (bup_ g_C.out));rintro e w8 ⟨rfl,hb⟩;refine ⟨_,rfl,?_⟩;replace d_4:=a_b.mk (a_k (bup_ d_4.out) hb);replace g_C:=a_b.mk (a_k (bup_ g_C.out) hb);replace HB:=a_b.mk (a_h (by repeat (first|(with_reducible first|exact HB.out|apply a_e|apply a_c|apply a_f|refine a_d ?_ f_a.out|refine a_d ?_ h_g.out)|exact HB.out)) hb);(try clear hb);(try clear hb2);(try clear hk);(try clear hi)))
 go_ret
 exact ⟨by first|rfl|(simp [a_p,a_q] <;> rfl)|(simp [*, a_p,a_q] <;> rfl),by repeat (first|(with_reducible first|exact HB.out|apply a_e|apply a_c|apply a_f|refine a_d ?_ f_a.out|refine a_d ?_ h_g.out)|exact HB.out)⟩
end Go.Proofs.YtcpfcehfgenljaaDoor.Q
end
section
namespace Go.Proofs.YtcpfcehfgenljaaDoor.Q
open Go.RowKit Go.Proofs.YtcpfcehfgenljaaDoorW.PrintWords Go.Proofs.YtcpfcehfgenljaaDoorW.PrintLast Go.Proofs.YtcpfcehfgenljaaDoorW.PrintMore
set_option linter.unusedVariables false
set_option linter.unusedSimpArgs false
def a_t.f (k : Nat)  : Option (Bool):=(a_n.f k 2 1 2).bind fun bt127 => ((a_C.f k bt127.1 0 2).bind fun bt132 => ((a_W.f bt127.1 2 15).bind fun bt134 => (if bt127.2 = 0 then (if bt132.2 = 0 then (if bt134.2 = 0 then (if bt132.1 = 3 then (if (bt134.1.length : Int) = 4 then (if 1 < (bt134.1.length : Int) then (if (rd bt134.1 1) = 3 then ((a_0.f bt127.1 1).bind fun t139 => (some (t139 == 12))) else (some false)) else (none)) else (some false)) else (some false)) else (some false)) else (some false)) else (some false))))
theorem a_t.mono : ∀ k,LeO (a_t.f k ) (a_t.f (k + 1) ):=by
 intro  k
 unfold a_t.f
 repeat' first
  | (with_reducible exact a_C.mono _ _ _ _)
  | (with_reducible exact a_n.mono _ _ _ _)
  | (with_reducible exact LeO.refl _)
  | (with_reducible exact LeO.none _)
  | (with_reducible refine LeO.ite ?_ ?_)
  | (with_reducible refine LeO.bind ?_ (fun _ => ?_))
  | exact a_C.mono _ _ _ _
  | exact a_n.mono _ _ _ _
  | exact LeO.none _
  | refine LeO.ite ?_ ?_
  | refine LeO.bind ?_ (fun _ => ?_)
set_option maxHeartbeats 8000000 in
set_option maxRecDepth 100000 in
theorem a_t.calls (k : Nat)  (r : Bool) (w : World) (ht : b_p w) (h : a_t.f k  = some r) :
 Calls Tryd.prog 10 #[] w fun e w' => e = .returned (.bool r) ∧ Below w.heap.size w w':=by
 have hu24:=Tryd.underlying24
 have HTAB_:=a_b.mk ht
 clear ht
 have HB:=a_b.mk (Below.refl w.heap.size w)
 have H : ((a_n.f k 2 1 2).bind fun bt127 => ((a_C.f k bt127.1 0 2).bind fun bt132 => ((a_W.f bt127.1 2 15).bind fun bt134 => (if bt127.2 = 0 then (if bt132.2 = 0 then (if bt134.2 = 0 then (if bt132.1 = 3 then (if (bt134.1.length : Int) = 4 then (if 1 < (bt134.1.length : Int) then (if (rd bt134.1 1) = 3 then ((a_0.f bt127.1 1).bind fun t139 => (some (t139 == 12))) else (some false)) else (none)) else (some false)) else (some false)) else (some false)) else (some false)) else (some false))))) = some r:=h
 clear h
 replace H:=Option.bind_eq_some_iff.mp H
 obtain ⟨⟨t127,t130⟩,A10,H⟩:=H
 replace H : ((a_C.f k t127 0 2).bind fun bt132 => ((a_W.f t127 2 15).bind fun bt134 => (if t130 = 0 then (if bt132.2 = 0 then (if bt134.2 = 0 then (if bt132.1 = 3 then (if (bt134.1.length : Int) = 4 then (if 1 < (bt134.1.length : Int) then (if (rd bt134.1 1) = 3 then ((a_0.f t127 1).bind fun t139 => (some (t139 == 12))) else (some false)) else (none)) else (some false)) else (some false)) else (some false)) else (some false)) else (some false)))) = some r:=H
 have A1:=a_b.mk A10
 clear A10
 replace H:=Option.bind_eq_some_iff.mp H
 obtain ⟨⟨t132,t133⟩,A20,H⟩:=H
 replace H : ((a_W.f t127 2 15).bind fun bt134 => (if t130 = 0 then (if t133 = 0 then (if bt134.2 = 0 then (if t132 = 3 then (if (bt134.1.length : Int) = 4 then (if 1 < (bt134.1.length : Int) then (if (rd bt134.1 1) = 3 then ((a_0.f t127 1).bind fun t139 => (some (t139 == 12))) else (some false)) else (none)) else (some false)) else (some false)) else (some false)) else (some false)) else (some false))) = some r:=H
 have A2:=a_b.mk A20
 clear A20
 replace H:=Option.bind_eq_some_iff.mp H
 obtain ⟨⟨t134,t137⟩,A30,H⟩:=H
 replace H : (if t130 = 0 then (if t133 = 0 then (if t137 = 0 then (if t132 = 3 then (if (t134.length : Int) = 4 then (if 1 < (t134.length : Int) then (if (rd t134 1) = 3 then ((a_0.f t127 1).bind fun t139 => (some (t139 == 12))) else (some false)) else (none)) else (some false)) else (some false)) else (some false)) else (some false)) else (some false)) = some r:=H
 have A3:=a_b.mk A30
 clear A30
 by_cases c4 : t130 = 0
 rotate_left
 ·rw [if_neg c4] at H
  have c4b0 : (t130 == 0) = false:=beq_eq_false_iff_ne.mpr c4
  have c4b1 : (t130 != 0) = true:=bne_iff_ne.mpr c4
  obtain rfl:=Option.some.inj H
  go_enter Tryd.func10,Tryd.ntmps10
  go_wp2_with (first|((with_reducible refine a_s (f:=26) rfl ?_);refine a_O (some 8) rfl rfl Tryd.func26 (by kernel_rfl) rfl #[.int .i64 2,.int .i64 1,.int .i64 2] rfl (by (try simp only [List.map_toArray,List.map_cons,List.map_nil]);first|done|rfl|(simp only [List.length_drop,List.length_take];rfl)) ?_;(with_reducible refine (a_n.calls k 2 1 2 t127 t130 _ A1.out).mono ?_);rintro e w59 ⟨v128,rfl,ho0,hb⟩;refine ⟨_,rfl,?_⟩;have a_G:=a_b.mk (Kd.b_i ho0 (a_g (lup_ HB.out)));replace HB:=a_b.mk (a_h (lup_ HB.out) hb);(try clear hb);(try clear hb2);(try clear hk);(try clear hi);(try clear ho0))|((with_reducible refine a_D (N:=1) rfl ?_);(try (refine a_U (by rfl) ?_;dsimp only));refine a_A ?hg (N:=1) ?hd (cs:=#[.slice none 0 0]) (t:=24) ?hr ?_;(case hd => rfl);(case hg => rfl);(case hr => first|(go_simp;done)|(go_simp;rfl));intro a_Z hg w60 hbox hb;have a_M:=a_b.mk (hbox);have e_S:=a_b.mk ((by rw [hg];exact (a_g (lup_ HB.out)) : w.heap.size ≤ a_Z));have b_n:=a_b.mk ((by rw [hg];exact (a_g (lup_ HB.out)) : w.heap.size ≤ a_Z));replace a_G:=a_b.mk (Kd.a_B (rup_ a_G.out) hb);replace HB:=a_b.mk (a_h (lup_ HB.out) hb);clear hb hbox hg;obtain ⟨Ao61,co61,eo61⟩:=Kd.b_E a_G.out;subst eo61;have e_y : w60.cell? ⟨a_Z,0,none⟩ = some (.slice none 0 0):=(a_l a_M.out 0).trans rfl;have e_z:=a_i a_M.out 0)|((with_reducible refine a_s (f:=17) rfl ?_);refine a_O (some 13) rfl rfl Tryd.func17 (by kernel_rfl) rfl #[.agg #[.slice Ao61 t127.length co61],.int .i64 0,.int .i64 2] rfl (by (try simp only [List.map_toArray,List.map_cons,List.map_nil]);first|done|rfl|(simp only [List.length_drop,List.length_take];rfl)) ?_;(with_reducible refine (a_C.calls k _ _ t127 0 2 t132 t133 _ ?side1 ?side2 A2.out).mono ?_);(case side1 => refine (Kd.a_v (e:=56) (base:=w.heap.size) (ok:=fun k_ => True) (n:=t127.length) (c:=co61) ?_).2.2;exact (by (with_reducible repeat (first|apply Kd.a_K|apply Kd.a_L|apply Kd.a_T));exact (Kd.b_u (Kd.b_1 (p:=⟨a_Z,0,none⟩) (Kd.b_j a_G.out a_M.out (by decide)) (fun _ hk => hk.2) (.slice Ao61 t127.length co61)) (fun _ h_ => h_.1))));(case side2 => exact (Kd.a_v a_G.out).2.1);rintro e w63 ⟨rfl,hb⟩;refine ⟨_,rfl,?_⟩;replace a_G:=a_b.mk (Kd.a_B (by (with_reducible repeat (first|apply Kd.a_K|apply Kd.a_L|apply Kd.a_T));exact (Kd.b_u (Kd.b_1 (p:=⟨a_Z,0,none⟩) (Kd.b_j a_G.out a_M.out (by decide)) (fun _ hk => hk.2) (.slice Ao61 t127.length co61)) (fun _ h_ => h_.1))) hb);replace a_M:=a_b.mk (a_k (g:=a_Z) (o:=.cells #[.slice Ao61 t127.length co61] 24 (0,0)) (by (with_reducible repeat (first|refine a_m ?_ _|refine a_o ?_|refine a_j ?_ _));refine b_d (cs:=#[.slice none 0 0]) ?_ 0 _ rfl;(with_reducible repeat (first|refine a_m ?_ _|refine a_o ?_|refine a_j ?_ _));exact a_M.out) hb);replace HB:=a_b.mk (a_h (by repeat (first|(with_reducible first|exact HB.out|apply a_e|apply a_c|apply a_f|refine a_d ?_ b_n.out)|exact HB.out)) hb);(try clear hb);(try clear hb2);(try clear hk);(try clear hi);have i_D : w63.cell? ⟨a_Z,0,none⟩ = some (.slice Ao61 t127.length co61):=(a_l a_M.out 0).trans rfl;have j_a:=a_i a_M.out 0)|((with_reducible refine a_s (f:=20) rfl ?_);refine a_O (some 18) rfl rfl Tryd.func20 (by kernel_rfl) rfl #[.agg #[.slice Ao61 t127.length co61],.int .i64 2,.int .u32 15] rfl (by (try simp only [List.map_toArray,List.map_cons,List.map_nil]);first|done|rfl|(simp only [List.length_drop,List.length_take];rfl)) ?_;(with_reducible refine (a_W.calls _ _ t127 2 15 t134 t137 _ ?side1 ?side2 ?side3 A3.out).mono ?_);(case side1 => repeat (first|exact (Kd.a_v a_G.out).2.2|(with_reducible refine Kd.a_I ?_ _)|(with_reducible refine Kd.a_J ?_ _)|(with_reducible refine Kd.a_X ?_)));(case side2 => exact (Kd.a_v a_G.out).2.1);(case side3 => exact b_p.below HTAB_.out (by repeat (first|(with_reducible first|exact HB.out|apply a_e|apply a_c|apply a_f|refine a_d ?_ b_n.out)|exact HB.out)));rintro e w65 ⟨v135,rfl,ho0,hb⟩;refine ⟨_,rfl,?_⟩;have c_I:=a_b.mk (Kd.b_i ho0 (a_g (by repeat (first|(with_reducible first|exact HB.out|apply a_e|apply a_c|apply a_f|refine a_d ?_ b_n.out)|exact HB.out))));replace a_G:=a_b.mk (Kd.a_B (rup_ a_G.out) hb);replace a_M:=a_b.mk (a_k (bup_ a_M.out) hb);replace HB:=a_b.mk (a_h (by repeat (first|(with_reducible first|exact HB.out|apply a_e|apply a_c|apply a_f|refine a_d ?_ b_n.out)|exact HB.out)) hb);(try clear hb);(try clear hb2);(try clear hk);(try clear hi);(try clear ho0)))
  go_ret
  exact ⟨by first|rfl|(simp [a_p,a_q] <;> rfl)|(simp [*, a_p,a_q] <;> rfl),by repeat (first|(with_reducible first|exact HB.out|apply a_e|apply a_c|apply a_f|refine a_d ?_ b_n.out)|exact HB.out)⟩
 rw [if_pos c4] at H
 have c4b0 : (t130 == 0) = true:=beq_iff_eq.mpr c4
 have c4b1 : (t130 != 0) = false:=bne_eq_false_iff_eq.mpr c4
 clear c4
 by_cases c5 : t133 = 0
 rotate_left
 ·rw [if_neg c5] at H
  have c5b0 : (t133 == 0) = false:=beq_eq_false_iff_ne.mpr c5
  have c5b1 : (t133 != 0) = true:=bne_iff_ne.mpr c5
  obtain rfl:=Option.some.inj H
  go_enter Tryd.func10,Tryd.ntmps10
  go_wp2_with (first|((with_reducible refine a_s (f:=26) rfl ?_);refine a_O (some 8) rfl rfl Tryd.func26 (by kernel_rfl) rfl #[.int .i64 2,.int .i64 1,.int .i64 2] rfl (by (try simp only [List.map_toArray,List.map_cons,List.map_nil]);first|done|rfl|(simp only [List.length_drop,List.length_take];rfl)) ?_;(with_reducible refine (a_n.calls k 2 1 2 t127 t130 _ A1.out).mono ?_);rintro e w52 ⟨v128,rfl,ho0,hb⟩;refine ⟨_,rfl,?_⟩;have a_G:=a_b.mk (Kd.b_i ho0 (a_g (lup_ HB.out)));replace HB:=a_b.mk (a_h (lup_ HB.out) hb);(try clear hb);(try clear hb2);(try clear hk);(try clear hi);(try clear ho0))|((with_reducible refine a_D (N:=1) rfl ?_);(try (refine a_U (by rfl) ?_;dsimp only));refine a_A ?hg (N:=1) ?hd (cs:=#[.slice none 0 0]) (t:=24) ?hr ?_;(case hd => rfl);(case hg => rfl);(case hr => first|(go_simp;done)|(go_simp;rfl));intro a_Z hg w53 hbox hb;have a_M:=a_b.mk (hbox);have e_S:=a_b.mk ((by rw [hg];exact (a_g (lup_ HB.out)) : w.heap.size ≤ a_Z));have b_n:=a_b.mk ((by rw [hg];exact (a_g (lup_ HB.out)) : w.heap.size ≤ a_Z));replace a_G:=a_b.mk (Kd.a_B (rup_ a_G.out) hb);replace HB:=a_b.mk (a_h (lup_ HB.out) hb);clear hb hbox hg;obtain ⟨Ao54,co54,eo54⟩:=Kd.b_E a_G.out;subst eo54;have i_B : w53.cell? ⟨a_Z,0,none⟩ = some (.slice none 0 0):=(a_l a_M.out 0).trans rfl;have i_8:=a_i a_M.out 0)|((with_reducible refine a_s (f:=17) rfl ?_);refine a_O (some 13) rfl rfl Tryd.func17 (by kernel_rfl) rfl #[.agg #[.slice Ao54 t127.length co54],.int .i64 0,.int .i64 2] rfl (by (try simp only [List.map_toArray,List.map_cons,List.map_nil]);first|done|rfl|(simp only [List.length_drop,List.length_take];rfl)) ?_;(with_reducible refine (a_C.calls k _ _ t127 0 2 t132 t133 _ ?side1 ?side2 A2.out).mono ?_);(case side1 => refine (Kd.a_v (e:=56) (base:=w.heap.size) (ok:=fun k_ => True) (n:=t127.length) (c:=co54) ?_).2.2;exact (by (with_reducible repeat (first|apply Kd.a_K|apply Kd.a_L|apply Kd.a_T));exact (Kd.b_u (Kd.b_1 (p:=⟨a_Z,0,none⟩) (Kd.b_j a_G.out a_M.out (by decide)) (fun _ hk => hk.2) (.slice Ao54 t127.length co54)) (fun _ h_ => h_.1))));(case side2 => exact (Kd.a_v a_G.out).2.1);rintro e w56 ⟨rfl,hb⟩;refine ⟨_,rfl,?_⟩;replace a_G:=a_b.mk (Kd.a_B (by (with_reducible repeat (first|apply Kd.a_K|apply Kd.a_L|apply Kd.a_T));exact (Kd.b_u (Kd.b_1 (p:=⟨a_Z,0,none⟩) (Kd.b_j a_G.out a_M.out (by decide)) (fun _ hk => hk.2) (.slice Ao54 t127.length co54)) (fun _ h_ => h_.1))) hb);replace a_M:=a_b.mk (a_k (g:=a_Z) (o:=.cells #[.slice Ao54 t127.length co54] 24 (0,0)) (by (with_reducible repeat (first|refine a_m ?_ _|refine a_o ?_|refine a_j ?_ _));refine b_d (cs:=#[.slice none 0 0]) ?_ 0 _ rfl;(with_reducible repeat (first|refine a_m ?_ _|refine a_o ?_|refine a_j ?_ _));exact a_M.out) hb);replace HB:=a_b.mk (a_h (by repeat (first|(with_reducible first|exact HB.out|apply a_e|apply a_c|apply a_f|refine a_d ?_ b_n.out)|exact HB.out)) hb);(try clear hb);(try clear hb2);(try clear hk);(try clear hi);have i_C : w56.cell? ⟨a_Z,0,none⟩ = some (.slice Ao54 t127.length co54):=(a_l a_M.out 0).trans rfl;have i_9:=a_i a_M.out 0)|((with_reducible refine a_s (f:=20) rfl ?_);refine a_O (some 18) rfl rfl Tryd.func20 (by kernel_rfl) rfl #[.agg #[.slice Ao54 t127.length co54],.int .i64 2,.int .u32 15] rfl (by (try simp only [List.map_toArray,List.map_cons,List.map_nil]);first|done|rfl|(simp only [List.length_drop,List.length_take];rfl)) ?_;(with_reducible refine (a_W.calls _ _ t127 2 15 t134 t137 _ ?side1 ?side2 ?side3 A3.out).mono ?_);(case side1 => repeat (first|exact (Kd.a_v a_G.out).2.2|(with_reducible refine Kd.a_I ?_ _)|(with_reducible refine Kd.a_J ?_ _)|(with_reducible refine Kd.a_X ?_)));(case side2 => exact (Kd.a_v a_G.out).2.1);(case side3 => exact b_p.below HTAB_.out (by repeat (first|(with_reducible first|exact HB.out|apply a_e|apply a_c|apply a_f|refine a_d ?_ b_n.out)|exact HB.out)));rintro e w58 ⟨v135,rfl,ho0,hb⟩;refine ⟨_,rfl,?_⟩;have c_I:=a_b.mk (Kd.b_i ho0 (a_g (by repeat (first|(with_reducible first|exact HB.out|apply a_e|apply a_c|apply a_f|refine a_d ?_ b_n.out)|exact HB.out))));replace a_G:=a_b.mk (Kd.a_B (rup_ a_G.out) hb);replace a_M:=a_b.mk (a_k (bup_ a_M.out) hb);replace HB:=a_b.mk (a_h (by repeat (first|(with_reducible first|exact HB.out|apply a_e|apply a_c|apply a_f|refine a_d ?_ b_n.out)|exact HB.out)) hb);(try clear hb);(try clear hb2);(try clear hk);(try clear hi);(try clear ho0)))
  go_ret
  exact ⟨by first|rfl|(simp [a_p,a_q] <;> rfl)|(simp [*, a_p,a_q] <;> rfl),by repeat (first|(with_reducible first|exact HB.out|apply a_e|apply a_c|apply a_f|refine a_d ?_ b_n.out)|exact HB.out)⟩
 rw [if_pos c5] at H
 have c5b0 : (t133 == 0) = true:=beq_iff_eq.mpr c5
 have c5b1 : (t133 != 0) = false:=bne_eq_false_iff_eq.mpr c5
 clear c5
 by_cases c6 : t137 = 0
 rotate_left
 ·rw [if_neg c6] at H
  have c6b0 : (t137 == 0) = false:=beq_eq_false_iff_ne.mpr c6
  have c6b1 : (t137 != 0) = true:=bne_iff_ne.mpr c6
  obtain rfl:=Option.some.inj H
  go_enter Tryd.func10,Tryd.ntmps10
  go_wp2_with (first|((with_reducible refine a_s (f:=26) rfl ?_);refine a_O (some 8) rfl rfl Tryd.func26 (by kernel_rfl) rfl #[.int .i64 2,.int .i64 1,.int .i64 2] rfl (by (try simp only [List.map_toArray,List.map_cons,List.map_nil]);first|done|rfl|(simp only [List.length_drop,List.length_take];rfl)) ?_;(with_reducible refine (a_n.calls k 2 1 2 t127 t130 _ A1.out).mono ?_);rintro e w45 ⟨v128,rfl,ho0,hb⟩;refine ⟨_,rfl,?_⟩;have a_G:=a_b.mk (Kd.b_i ho0 (a_g (lup_ HB.out)));replace HB:=a_b.mk (a_h (lup_ HB.out) hb);(try clear hb);(try clear hb2);(try clear hk);(try clear hi);(try clear ho0))|((with_reducible refine a_D (N:=1) rfl ?_);(try (refine a_U (by rfl) ?_;dsimp only));refine a_A ?hg (N:=1) ?hd (cs:=#[.slice none 0 0]) (t:=24) ?hr ?_;(case hd => rfl);(case hg => rfl);(case hr => first|(go_simp;done)|(go_simp;rfl));intro a_Z hg w46 hbox hb;have a_M:=a_b.mk (hbox);have e_S:=a_b.mk ((by rw [hg];exact (a_g (lup_ HB.out)) : w.heap.size ≤ a_Z));have b_n:=a_b.mk ((by rw [hg];exact (a_g (lup_ HB.out)) : w.heap.size ≤ a_Z));replace a_G:=a_b.mk (Kd.a_B (rup_ a_G.out) hb);replace HB:=a_b.mk (a_h (lup_ HB.out) hb);clear hb hbox hg;obtain ⟨Ao47,co47,eo47⟩:=Kd.b_E a_G.out;subst eo47;have i_z : w46.cell? ⟨a_Z,0,none⟩ = some (.slice none 0 0):=(a_l a_M.out 0).trans rfl;have i_6:=a_i a_M.out 0)|((with_reducible refine a_s (f:=17) rfl ?_);refine a_O (some 13) rfl rfl Tryd.func17 (by kernel_rfl) rfl #[.agg #[.slice Ao47 t127.length co47],.int .i64 0,.int .i64 2] rfl (by (try simp only [List.map_toArray,List.map_cons,List.map_nil]);first|done|rfl|(simp only [List.length_drop,List.length_take];rfl)) ?_;(with_reducible refine (a_C.calls k _ _ t127 0 2 t132 t133 _ ?side1 ?side2 A2.out).mono ?_);(case side1 => refine (Kd.a_v (e:=56) (base:=w.heap.size) (ok:=fun k_ => True) (n:=t127.length) (c:=co47) ?_).2.2;exact (by (with_reducible repeat (first|apply Kd.a_K|apply Kd.a_L|apply Kd.a_T));exact (Kd.b_u (Kd.b_1 (p:=⟨a_Z,0,none⟩) (Kd.b_j a_G.out a_M.out (by decide)) (fun _ hk => hk.2) (.slice Ao47 t127.length co47)) (fun _ h_ => h_.1))));(case side2 => exact (Kd.a_v a_G.out).2.1);rintro e w49 ⟨rfl,hb⟩;refine ⟨_,rfl,?_⟩;replace a_G:=a_b.mk (Kd.a_B (by (with_reducible repeat (first|apply Kd.a_K|apply Kd.a_L|apply Kd.a_T));exact (Kd.b_u (Kd.b_1 (p:=⟨a_Z,0,none⟩) (Kd.b_j a_G.out a_M.out (by decide)) (fun _ hk => hk.2) (.slice Ao47 t127.length co47)) (fun _ h_ => h_.1))) hb);replace a_M:=a_b.mk (a_k (g:=a_Z) (o:=.cells #[.slice Ao47 t127.length co47] 24 (0,0)) (by (with_reducible repeat (first|refine a_m ?_ _|refine a_o ?_|refine a_j ?_ _));refine b_d (cs:=#[.slice none 0 0]) ?_ 0 _ rfl;(with_reducible repeat (first|refine a_m ?_ _|refine a_o ?_|refine a_j ?_ _));exact a_M.out) hb);replace HB:=a_b.mk (a_h (by repeat (first|(with_reducible first|exact HB.out|apply a_e|apply a_c|apply a_f|refine a_d ?_ b_n.out)|exact HB.out)) hb);(try clear hb);(try clear hb2);(try clear hk);(try clear hi);have i_A : w49.cell? ⟨a_Z,0,none⟩ = some (.slice Ao47 t127.length co47):=(a_l a_M.out 0).trans rfl;have i_7:=a_i a_M.out 0)|((with_reducible refine a_s (f:=20) rfl ?_);refine a_O (some 18) rfl rfl Tryd.func20 (by kernel_rfl) rfl #[.agg #[.slice Ao47 t127.length co47],.int .i64 2,.int .u32 15] rfl (by (try simp only [List.map_toArray,List.map_cons,List.map_nil]);first|done|rfl|(simp only [List.length_drop,List.length_take];rfl)) ?_;(with_reducible refine (a_W.calls _ _ t127 2 15 t134 t137 _ ?side1 ?side2 ?side3 A3.out).mono ?_);(case side1 => repeat (first|exact (Kd.a_v a_G.out).2.2|(with_reducible refine Kd.a_I ?_ _)|(with_reducible refine Kd.a_J ?_ _)|(with_reducible refine Kd.a_X ?_)));(case side2 => exact (Kd.a_v a_G.out).2.1);(case side3 => exact b_p.below HTAB_.out (by repeat (first|(with_reducible first|exact HB.out|apply a_e|apply a_c|apply a_f|refine a_d ?_ b_n.out)|exact HB.out)));rintro e w51 ⟨v135,rfl,ho0,hb⟩;refine ⟨_,rfl,?_⟩;have c_I:=a_b.mk (Kd.b_i ho0 (a_g (by repeat (first|(with_reducible first|exact HB.out|apply a_e|apply a_c|apply a_f|refine a_d ?_ b_n.out)|exact HB.out))));replace a_G:=a_b.mk (Kd.a_B (rup_ a_G.out) hb);replace a_M:=a_b.mk (a_k (bup_ a_M.out) hb);replace HB:=a_b.mk (a_h (by repeat (first|(with_reducible first|exact HB.out|apply a_e|apply a_c|apply a_f|refine a_d ?_ b_n.out)|exact HB.out)) hb);(try clear hb);(try clear hb2);(try clear hk);(try clear hi);(try clear ho0)))
  go_ret
  exact ⟨by first|rfl|(simp [a_p,a_q] <;> rfl)|(simp [*, a_p,a_q] <;> rfl),by repeat (first|(with_reducible first|exact HB.out|apply a_e|apply a_c|apply a_f|refine a_d ?_ b_n.out)|exact HB.out)⟩
 rw [if_pos c6] at H
 have c6b0 : (t137 == 0) = true:=beq_iff_eq.mpr c6
 have c6b1 : (t137 != 0) = false:=bne_eq_false_iff_eq.mpr c6
 clear c6
 by_cases c7 : t132 = 3
 rotate_left
 ·rw [if_neg c7] at H
  have c7b0 : (t132 == 3) = false:=beq_eq_false_iff_ne.mpr c7
  have c7b1 : (t132 != 3) = true:=bne_iff_ne.mpr c7
  obtain rfl:=Option.some.inj H
  go_enter Tryd.func10,Tryd.ntmps10
  go_wp2_with (first|((with_reducible refine a_s (f:=26) rfl ?_);refine a_O (some 8) rfl rfl Tryd.func26 (by kernel_rfl) rfl #[.int .i64 2,.int .i64 1,.int .i64 2] rfl (by (try simp only [List.map_toArray,List.map_cons,List.map_nil]);first|done|rfl|(simp only [List.length_drop,List.length_take];rfl)) ?_;(with_reducible refine (a_n.calls k 2 1 2 t127 t130 _ A1.out).mono ?_);rintro e w38 ⟨v128,rfl,ho0,hb⟩;refine ⟨_,rfl,?_⟩;have a_G:=a_b.mk (Kd.b_i ho0 (a_g (lup_ HB.out)));replace HB:=a_b.mk (a_h (lup_ HB.out) hb);(try clear hb);(try clear hb2);(try clear hk);(try clear hi);(try clear ho0))|((with_reducible refine a_D (N:=1) rfl ?_);(try (refine a_U (by rfl) ?_;dsimp only));refine a_A ?hg (N:=1) ?hd (cs:=#[.slice none 0 0]) (t:=24) ?hr ?_;(case hd => rfl);(case hg => rfl);(case hr => first|(go_simp;done)|(go_simp;rfl));intro a_Z hg w39 hbox hb;have a_M:=a_b.mk (hbox);have e_S:=a_b.mk ((by rw [hg];exact (a_g (lup_ HB.out)) : w.heap.size ≤ a_Z));have b_n:=a_b.mk ((by rw [hg];exact (a_g (lup_ HB.out)) : w.heap.size ≤ a_Z));replace a_G:=a_b.mk (Kd.a_B (rup_ a_G.out) hb);replace HB:=a_b.mk (a_h (lup_ HB.out) hb);clear hb hbox hg;obtain ⟨Ao40,co40,eo40⟩:=Kd.b_E a_G.out;subst eo40;have d_V : w39.cell? ⟨a_Z,0,none⟩ = some (.slice none 0 0):=(a_l a_M.out 0).trans rfl;have d_W:=a_i a_M.out 0)|((with_reducible refine a_s (f:=17) rfl ?_);refine a_O (some 13) rfl rfl Tryd.func17 (by kernel_rfl) rfl #[.agg #[.slice Ao40 t127.length co40],.int .i64 0,.int .i64 2] rfl (by (try simp only [List.map_toArray,List.map_cons,List.map_nil]);first|done|rfl|(simp only [List.length_drop,List.length_take];rfl)) ?_;(with_reducible refine (a_C.calls k _ _ t127 0 2 t132 t133 _ ?side1 ?side2 A2.out).mono ?_);(case side1 => refine (Kd.a_v (e:=56) (base:=w.heap.size) (ok:=fun k_ => True) (n:=t127.length) (c:=co40) ?_).2.2;exact (by (with_reducible repeat (first|apply Kd.a_K|apply Kd.a_L|apply Kd.a_T));exact (Kd.b_u (Kd.b_1 (p:=⟨a_Z,0,none⟩) (Kd.b_j a_G.out a_M.out (by decide)) (fun _ hk => hk.2) (.slice Ao40 t127.length co40)) (fun _ h_ => h_.1))));(case side2 => exact (Kd.a_v a_G.out).2.1);rintro e w42 ⟨rfl,hb⟩;refine ⟨_,rfl,?_⟩;replace a_G:=a_b.mk (Kd.a_B (by (with_reducible repeat (first|apply Kd.a_K|apply Kd.a_L|apply Kd.a_T));exact (Kd.b_u (Kd.b_1 (p:=⟨a_Z,0,none⟩) (Kd.b_j a_G.out a_M.out (by decide)) (fun _ hk => hk.2) (.slice Ao40 t127.length co40)) (fun _ h_ => h_.1))) hb);replace a_M:=a_b.mk (a_k (g:=a_Z) (o:=.cells #[.slice Ao40 t127.length co40] 24 (0,0)) (by (with_reducible repeat (first|refine a_m ?_ _|refine a_o ?_|refine a_j ?_ _));refine b_d (cs:=#[.slice none 0 0]) ?_ 0 _ rfl;(with_reducible repeat (first|refine a_m ?_ _|refine a_o ?_|refine a_j ?_ _));exact a_M.out) hb);replace HB:=a_b.mk (a_h (by repeat (first|(with_reducible first|exact HB.out|apply a_e|apply a_c|apply a_f|refine a_d ?_ b_n.out)|exact HB.out)) hb);(try clear hb);(try clear hb2);(try clear hk);(try clear hi);have i_u : w42.cell? ⟨a_Z,0,none⟩ = some (.slice Ao40 t127.length co40):=(a_l a_M.out 0).trans rfl;have i_1:=a_i a_M.out 0)|((with_reducible refine a_s (f:=20) rfl ?_);refine a_O (some 18) rfl rfl Tryd.func20 (by kernel_rfl) rfl #[.agg #[.slice Ao40 t127.length co40],.int .i64 2,.int .u32 15] rfl (by (try simp only [List.map_toArray,List.map_cons,List.map_nil]);first|done|rfl|(simp only [List.length_drop,List.length_take];rfl)) ?_;(with_reducible refine (a_W.calls _ _ t127 2 15 t134 t137 _ ?side1 ?side2 ?side3 A3.out).mono ?_);(case side1 => repeat (first|exact (Kd.a_v a_G.out).2.2|(with_reducible refine Kd.a_I ?_ _)|(with_reducible refine Kd.a_J ?_ _)|(with_reducible refine Kd.a_X ?_)));(case side2 => exact (Kd.a_v a_G.out).2.1);(case side3 => exact b_p.below HTAB_.out (by repeat (first|(with_reducible first|exact HB.out|apply a_e|apply a_c|apply a_f|refine a_d ?_ b_n.out)|exact HB.out)));rintro e w44 ⟨v135,rfl,ho0,hb⟩;refine ⟨_,rfl,?_⟩;have c_I:=a_b.mk (Kd.b_i ho0 (a_g (by repeat (first|(with_reducible first|exact HB.out|apply a_e|apply a_c|apply a_f|refine a_d ?_ b_n.out)|exact HB.out))));replace a_G:=a_b.mk (Kd.a_B (rup_ a_G.out) hb);replace a_M:=a_b.mk (a_k (bup_ a_M.out) hb);replace HB:=a_b.mk (a_h (by repeat (first|(with_reducible first|exact HB.out|apply a_e|apply a_c|apply a_f|refine a_d ?_ b_n.out)|exact HB.out)) hb);(try clear hb);(try clear hb2);(try clear hk);(try clear hi);(try clear ho0)))
  go_ret
  exact ⟨by first|rfl|(simp [a_p,a_q] <;> rfl)|(simp [*, a_p,a_q] <;> rfl),by repeat (first|(with_reducible first|exact HB.out|apply a_e|apply a_c|apply a_f|refine a_d ?_ b_n.out)|exact HB.out)⟩
 rw [if_pos c7] at H
 have c7b0 : (t132 == 3) = true:=beq_iff_eq.mpr c7
 have c7b1 : (t132 != 3) = false:=bne_eq_false_iff_eq.mpr c7
 clear c7
 by_cases c8 : (t134.length : Int) = 4
 rotate_left
 ·rw [if_neg c8] at H
  have c8b0 : ((t134.length : Int) == 4) = false:=beq_eq_false_iff_ne.mpr c8
  have c8b1 : ((t134.length : Int) != 4) = true:=bne_iff_ne.mpr c8
  obtain rfl:=Option.some.inj H
  go_enter Tryd.func10,Tryd.ntmps10
  go_wp2_with (first|((with_reducible refine a_s (f:=26) rfl ?_);refine a_O (some 8) rfl rfl Tryd.func26 (by kernel_rfl) rfl #[.int .i64 2,.int .i64 1,.int .i64 2] rfl (by (try simp only [List.map_toArray,List.map_cons,List.map_nil]);first|done|rfl|(simp only [List.length_drop,List.length_take];rfl)) ?_;(with_reducible refine (a_n.calls k 2 1 2 t127 t130 _ A1.out).mono ?_);rintro e w30 ⟨v128,rfl,ho0,hb⟩;refine ⟨_,rfl,?_⟩;have a_G:=a_b.mk (Kd.b_i ho0 (a_g (lup_ HB.out)));replace HB:=a_b.mk (a_h (lup_ HB.out) hb);(try clear hb);(try clear hb2);(try clear hk);(try clear hi);(try clear ho0))|((with_reducible refine a_D (N:=1) rfl ?_);(try (refine a_U (by rfl) ?_;dsimp only));refine a_A ?hg (N:=1) ?hd (cs:=#[.slice none 0 0]) (t:=24) ?hr ?_;(case hd => rfl);(case hg => rfl);(case hr => first|(go_simp;done)|(go_simp;rfl));intro a_Z hg w31 hbox hb;have a_M:=a_b.mk (hbox);have e_S:=a_b.mk ((by rw [hg];exact (a_g (lup_ HB.out)) : w.heap.size ≤ a_Z));have b_n:=a_b.mk ((by rw [hg];exact (a_g (lup_ HB.out)) : w.heap.size ≤ a_Z));replace a_G:=a_b.mk (Kd.a_B (rup_ a_G.out) hb);replace HB:=a_b.mk (a_h (lup_ HB.out) hb);clear hb hbox hg;obtain ⟨Ao32,co32,eo32⟩:=Kd.b_E a_G.out;subst eo32;have f_A : w31.cell? ⟨a_Z,0,none⟩ = some (.slice none 0 0):=(a_l a_M.out 0).trans rfl;have f_H:=a_i a_M.out 0)|((with_reducible refine a_s (f:=17) rfl ?_);refine a_O (some 13) rfl rfl Tryd.func17 (by kernel_rfl) rfl #[.agg #[.slice Ao32 t127.length co32],.int .i64 0,.int .i64 2] rfl (by (try simp only [List.map_toArray,List.map_cons,List.map_nil]);first|done|rfl|(simp only [List.length_drop,List.length_take];rfl)) ?_;(with_reducible refine (a_C.calls k _ _ t127 0 2 t132 t133 _ ?side1 ?side2 A2.out).mono ?_);(case side1 => refine (Kd.a_v (e:=56) (base:=w.heap.size) (ok:=fun k_ => True) (n:=t127.length) (c:=co32) ?_).2.2;exact (by (with_reducible repeat (first|apply Kd.a_K|apply Kd.a_L|apply Kd.a_T));exact (Kd.b_u (Kd.b_1 (p:=⟨a_Z,0,none⟩) (Kd.b_j a_G.out a_M.out (by decide)) (fun _ hk => hk.2) (.slice Ao32 t127.length co32)) (fun _ h_ => h_.1))));(case side2 => exact (Kd.a_v a_G.out).2.1);rintro e w34 ⟨rfl,hb⟩;refine ⟨_,rfl,?_⟩;replace a_G:=a_b.mk (Kd.a_B (by (with_reducible repeat (first|apply Kd.a_K|apply Kd.a_L|apply Kd.a_T));exact (Kd.b_u (Kd.b_1 (p:=⟨a_Z,0,none⟩) (Kd.b_j a_G.out a_M.out (by decide)) (fun _ hk => hk.2) (.slice Ao32 t127.length co32)) (fun _ h_ => h_.1))) hb);replace a_M:=a_b.mk (a_k (g:=a_Z) (o:=.cells #[.slice Ao32 t127.length co32] 24 (0,0)) (by (with_reducible repeat (first|refine a_m ?_ _|refine a_o ?_|refine a_j ?_ _));refine b_d (cs:=#[.slice none 0 0]) ?_ 0 _ rfl;(with_reducible repeat (first|refine a_m ?_ _|refine a_o ?_|refine a_j ?_ _));exact a_M.out) hb);replace HB:=a_b.mk (a_h (by repeat (first|(with_reducible first|exact HB.out|apply a_e|apply a_c|apply a_f|refine a_d ?_ b_n.out)|exact HB.out)) hb);(try clear hb);(try clear hb2);(try clear hk);(try clear hi);have g_S : w34.cell? ⟨a_Z,0,none⟩ = some (.slice Ao32 t127.length co32):=(a_l a_M.out 0).trans rfl;have g_Z:=a_i a_M.out 0)|((with_reducible refine a_s (f:=20) rfl ?_);refine a_O (some 18) rfl rfl Tryd.func20 (by kernel_rfl) rfl #[.agg #[.slice Ao32 t127.length co32],.int .i64 2,.int .u32 15] rfl (by (try simp only [List.map_toArray,List.map_cons,List.map_nil]);first|done|rfl|(simp only [List.length_drop,List.length_take];rfl)) ?_;(with_reducible refine (a_W.calls _ _ t127 2 15 t134 t137 _ ?side1 ?side2 ?side3 A3.out).mono ?_);(case side1 => repeat (first|exact (Kd.a_v a_G.out).2.2|(with_reducible refine Kd.a_I ?_ _)|(with_reducible refine Kd.a_J ?_ _)|(with_reducible refine Kd.a_X ?_)));(case side2 => exact (Kd.a_v a_G.out).2.1);(case side3 => exact b_p.below HTAB_.out (by repeat (first|(with_reducible first|exact HB.out|apply a_e|apply a_c|apply a_f|refine a_d ?_ b_n.out)|exact HB.out)));rintro e w36 ⟨v135,rfl,ho0,hb⟩;refine ⟨_,rfl,?_⟩;have c_I:=a_b.mk (Kd.b_i ho0 (a_g (by repeat (first|(with_reducible first|exact HB.out|apply a_e|apply a_c|apply a_f|refine a_d ?_ b_n.out)|exact HB.out))));replace a_G:=a_b.mk (Kd.a_B (rup_ a_G.out) hb);replace a_M:=a_b.mk (a_k (bup_ a_M.out) hb);replace HB:=a_b.mk (a_h (by repeat (first|(with_reducible first|exact HB.out|apply a_e|apply a_c|apply a_f|refine a_d ?_ b_n.out)|exact HB.out)) hb);(try clear hb);(try clear hb2);(try clear hk);(try clear hi);(try clear ho0);obtain ⟨Ao37,co37,eo37⟩:=Kd.b_E c_I.out;subst eo37))
  go_ret
  exact ⟨by first|rfl|(simp [a_p,a_q] <;> rfl)|(simp [*, a_p,a_q] <;> rfl),by repeat (first|(with_reducible first|exact HB.out|apply a_e|apply a_c|apply a_f|refine a_d ?_ b_n.out)|exact HB.out)⟩
 rw [if_pos c8] at H
 have c8b0 : ((t134.length : Int) == 4) = true:=beq_iff_eq.mpr c8
 have c8b1 : ((t134.length : Int) != 4) = false:=bne_eq_false_iff_eq.mpr c8
 clear c8
 by_cases c9 : 1 < (t134.length : Int)
 rotate_left
 ·rw [if_neg c9] at H
  exact absurd H (by simp)
 rw [if_pos c9] at H
 have c9b0 : decide (1 < (t134.length : Int)) = true:=decide_eq_true c9
 have c9b1 : decide (1 < t134.length) = true:=decide_eq_true (by omega)
 clear c9
 by_cases c10 : (rd t134 1) = 3
 rotate_left
 ·rw [if_neg c10] at H
  have c10b0 : ((rd t134 1) == 3) = false:=beq_eq_false_iff_ne.mpr c10
  have c10b1 : ((rd t134 1) != 3) = true:=bne_iff_ne.mpr c10
  obtain rfl:=Option.some.inj H
  go_enter Tryd.func10,Tryd.ntmps10
  go_wp2_with (first|((with_reducible refine a_s (f:=26) rfl ?_);refine a_O (some 8) rfl rfl Tryd.func26 (by kernel_rfl) rfl #[.int .i64 2,.int .i64 1,.int .i64 2] rfl (by (try simp only [List.map_toArray,List.map_cons,List.map_nil]);first|done|rfl|(simp only [List.length_drop,List.length_take];rfl)) ?_;(with_reducible refine (a_n.calls k 2 1 2 t127 t130 _ A1.out).mono ?_);rintro e w22 ⟨v128,rfl,ho0,hb⟩;refine ⟨_,rfl,?_⟩;have a_G:=a_b.mk (Kd.b_i ho0 (a_g (lup_ HB.out)));replace HB:=a_b.mk (a_h (lup_ HB.out) hb);(try clear hb);(try clear hb2);(try clear hk);(try clear hi);(try clear ho0))|((with_reducible refine a_D (N:=1) rfl ?_);(try (refine a_U (by rfl) ?_;dsimp only));refine a_A ?hg (N:=1) ?hd (cs:=#[.slice none 0 0]) (t:=24) ?hr ?_;(case hd => rfl);(case hg => rfl);(case hr => first|(go_simp;done)|(go_simp;rfl));intro a_Z hg w23 hbox hb;have a_M:=a_b.mk (hbox);have e_S:=a_b.mk ((by rw [hg];exact (a_g (lup_ HB.out)) : w.heap.size ≤ a_Z));have b_n:=a_b.mk ((by rw [hg];exact (a_g (lup_ HB.out)) : w.heap.size ≤ a_Z));replace a_G:=a_b.mk (Kd.a_B (rup_ a_G.out) hb);replace HB:=a_b.mk (a_h (lup_ HB.out) hb);clear hb hbox hg;obtain ⟨Ao24,co24,eo24⟩:=Kd.b_E a_G.out;subst eo24;have d_e : w23.cell? ⟨a_Z,0,none⟩ = some (.slice none 0 0):=(a_l a_M.out 0).trans rfl;have d_g:=a_i a_M.out 0)|((with_reducible refine a_s (f:=17) rfl ?_);refine a_O (some 13) rfl rfl Tryd.func17 (by kernel_rfl) rfl #[.agg #[.slice Ao24 t127.length co24],.int .i64 0,.int .i64 2] rfl (by (try simp only [List.map_toArray,List.map_cons,List.map_nil]);first|done|rfl|(simp only [List.length_drop,List.length_take];rfl)) ?_;(with_reducible refine (a_C.calls k _ _ t127 0 2 t132 t133 _ ?side1 ?side2 A2.out).mono ?_);(case side1 => refine (Kd.a_v (e:=56) (base:=w.heap.size) (ok:=fun k_ => True) (n:=t127.length) (c:=co24) ?_).2.2;exact (by (with_reducible repeat (first|apply Kd.a_K|apply Kd.a_L|apply Kd.a_T));exact (Kd.b_u (Kd.b_1 (p:=⟨a_Z,0,none⟩) (Kd.b_j a_G.out a_M.out (by decide)) (fun _ hk => hk.2) (.slice Ao24 t127.length co24)) (fun _ h_ => h_.1))));(case side2 => exact (Kd.a_v a_G.out).2.1);rintro e w26 ⟨rfl,hb⟩;refine ⟨_,rfl,?_⟩;replace a_G:=a_b.mk (Kd.a_B (by (with_reducible repeat (first|apply Kd.a_K|apply Kd.a_L|apply Kd.a_T));exact (Kd.b_u (Kd.b_1 (p:=⟨a_Z,0,none⟩) (Kd.b_j a_G.out a_M.out (by decide)) (fun _ hk => hk.2) (.slice Ao24 t127.length co24)) (fun _ h_ => h_.1))) hb);replace a_M:=a_b.mk (a_k (g:=a_Z) (o:=.cells #[.slice Ao24 t127.length co24] 24 (0,0)) (by (with_reducible repeat (first|refine a_m ?_ _|refine a_o ?_|refine a_j ?_ _));refine b_d (cs:=#[.slice none 0 0]) ?_ 0 _ rfl;(with_reducible repeat (first|refine a_m ?_ _|refine a_o ?_|refine a_j ?_ _));exact a_M.out) hb);replace HB:=a_b.mk (a_h (by repeat (first|(with_reducible first|exact HB.out|apply a_e|apply a_c|apply a_f|refine a_d ?_ b_n.out)|exact HB.out)) hb);(try clear hb);(try clear hb2);(try clear hk);(try clear hi);have i_m : w26.cell? ⟨a_Z,0,none⟩ = some (.slice Ao24 t127.length co24):=(a_l a_M.out 0).trans rfl;have i_T:=a_i a_M.out 0)|((with_reducible refine a_s (f:=20) rfl ?_);refine a_O (some 18) rfl rfl Tryd.func20 (by kernel_rfl) rfl #[.agg #[.slice Ao24 t127.length co24],.int .i64 2,.int .u32 15] rfl (by (try simp only [List.map_toArray,List.map_cons,List.map_nil]);first|done|rfl|(simp only [List.length_drop,List.length_take];rfl)) ?_;(with_reducible refine (a_W.calls _ _ t127 2 15 t134 t137 _ ?side1 ?side2 ?side3 A3.out).mono ?_);(case side1 => repeat (first|exact (Kd.a_v a_G.out).2.2|(with_reducible refine Kd.a_I ?_ _)|(with_reducible refine Kd.a_J ?_ _)|(with_reducible refine Kd.a_X ?_)));(case side2 => exact (Kd.a_v a_G.out).2.1);(case side3 => exact b_p.below HTAB_.out (by repeat (first|(with_reducible first|exact HB.out|apply a_e|apply a_c|apply a_f|refine a_d ?_ b_n.out)|exact HB.out)));rintro e w28 ⟨v135,rfl,ho0,hb⟩;refine ⟨_,rfl,?_⟩;have c_I:=a_b.mk (Kd.b_i ho0 (a_g (by repeat (first|(with_reducible first|exact HB.out|apply a_e|apply a_c|apply a_f|refine a_d ?_ b_n.out)|exact HB.out))));replace a_G:=a_b.mk (Kd.a_B (rup_ a_G.out) hb);replace a_M:=a_b.mk (a_k (bup_ a_M.out) hb);replace HB:=a_b.mk (a_h (by repeat (first|(with_reducible first|exact HB.out|apply a_e|apply a_c|apply a_f|refine a_d ?_ b_n.out)|exact HB.out)) hb);(try clear hb);(try clear hb2);(try clear hk);(try clear hi);(try clear ho0);obtain ⟨Ao29,co29,eo29⟩:=Kd.b_E c_I.out;subst eo29;have p138 : 0 ≤ (1 : Int):=(by omega);have q138 : 1 < (t134.length : Int):=of_decide_eq_true (by first|(with_reducible assumption)|assumption);obtain ⟨ad138,e138,d_h⟩:=Kd.c_X (Kd.a_v c_I.out).2.2 1 p138 q138;cases e138;(try simp only [show (1 : Int).toNat = 1 from rfl,Nat.reduceMul,Nat.reduceEqDiff,Go.Addr.add, ↓reduceIte] at d_h);have qi138 : (1 < t134.length) = True:=eq_true (by omega);(try rw [show ((1 : Int)).toNat = 1 from rfl] at d_h);replace p138:=eq_true p138;replace q138:=eq_true q138))
  go_ret
  exact ⟨by first|rfl|(simp [a_p,a_q] <;> rfl)|(simp [*, a_p,a_q] <;> rfl),by repeat (first|(with_reducible first|exact HB.out|apply a_e|apply a_c|apply a_f|refine a_d ?_ b_n.out)|exact HB.out)⟩
 rw [if_pos c10] at H
 have c10b0 : ((rd t134 1) == 3) = true:=beq_iff_eq.mpr c10
 have c10b1 : ((rd t134 1) != 3) = false:=bne_eq_false_iff_eq.mpr c10
 clear c10
 replace H:=Option.bind_eq_some_iff.mp H
 obtain ⟨t139,A110,H⟩:=H
 replace H : (some (t139 == 12)) = some r:=H
 have A11:=a_b.mk A110
 clear A110
 obtain rfl:=Option.some.inj H
 go_enter Tryd.func10,Tryd.ntmps10
 go_wp2_with (first|((with_reducible refine a_s (f:=26) rfl ?_);refine a_O (some 8) rfl rfl Tryd.func26 (by kernel_rfl) rfl #[.int .i64 2,.int .i64 1,.int .i64 2] rfl (by (try simp only [List.map_toArray,List.map_cons,List.map_nil]);first|done|rfl|(simp only [List.length_drop,List.length_take];rfl)) ?_;(with_reducible refine (a_n.calls k 2 1 2 t127 t130 _ A1.out).mono ?_);rintro e w12 ⟨v128,rfl,ho0,hb⟩;refine ⟨_,rfl,?_⟩;have a_G:=a_b.mk (Kd.b_i ho0 (a_g (lup_ HB.out)));replace HB:=a_b.mk (a_h (lup_ HB.out) hb);(try clear hb);(try clear hb2);(try clear hk);(try clear hi);(try clear ho0))|((with_reducible refine a_D (N:=1) rfl ?_);(try (refine a_U (by rfl) ?_;dsimp only));refine a_A ?hg (N:=1) ?hd (cs:=#[.slice none 0 0]) (t:=24) ?hr ?_;(case hd => rfl);(case hg => rfl);(case hr => first|(go_simp;done)|(go_simp;rfl));intro a_Z hg w13 hbox hb;have a_M:=a_b.mk (hbox);have e_S:=a_b.mk ((by rw [hg];exact (a_g (lup_ HB.out)) : w.heap.size ≤ a_Z));have b_n:=a_b.mk ((by rw [hg];exact (a_g (lup_ HB.out)) : w.heap.size ≤ a_Z));replace a_G:=a_b.mk (Kd.a_B (rup_ a_G.out) hb);replace HB:=a_b.mk (a_h (lup_ HB.out) hb);clear hb hbox hg;obtain ⟨Ao14,co14,eo14⟩:=Kd.b_E a_G.out;subst eo14;have f_x : w13.cell? ⟨a_Z,0,none⟩ = some (.slice none 0 0):=(a_l a_M.out 0).trans rfl;have f_E:=a_i a_M.out 0)|((with_reducible refine a_s (f:=17) rfl ?_);refine a_O (some 13) rfl rfl Tryd.func17 (by kernel_rfl) rfl #[.agg #[.slice Ao14 t127.length co14],.int .i64 0,.int .i64 2] rfl (by (try simp only [List.map_toArray,List.map_cons,List.map_nil]);first|done|rfl|(simp only [List.length_drop,List.length_take];rfl)) ?_;(with_reducible refine (a_C.calls k _ _ t127 0 2 t132 t133 _ ?side1 ?side2 A2.out).mono ?_);(case side1 => refine (Kd.a_v (e:=56) (base:=w.heap.size) (ok:=fun k_ => True) (n:=t127.length) (c:=co14) ?_).2.2;exact (by (with_reducible repeat (first|apply Kd.a_K|apply Kd.a_L|apply Kd.a_T));exact (Kd.b_u (Kd.b_1 (p:=⟨a_Z,0,none⟩) (Kd.b_j a_G.out a_M.out (by decide)) (fun _ hk => hk.2) (.slice Ao14 t127.length co14)) (fun _ h_ => h_.1))));(case side2 => exact (Kd.a_v a_G.out).2.1);rintro e w16 ⟨rfl,hb⟩;refine ⟨_,rfl,?_⟩;replace a_G:=a_b.mk (Kd.a_B (by (with_reducible repeat (first|apply Kd.a_K|apply Kd.a_L|apply Kd.a_T));exact (Kd.b_u (Kd.b_1 (p:=⟨a_Z,0,none⟩) (Kd.b_j a_G.out a_M.out (by decide)) (fun _ hk => hk.2) (.slice Ao14 t127.length co14)) (fun _ h_ => h_.1))) hb);replace a_M:=a_b.mk (a_k (g:=a_Z) (o:=.cells #[.slice Ao14 t127.length co14] 24 (0,0)) (by (with_reducible repeat (first|refine a_m ?_ _|refine a_o ?_|refine a_j ?_ _));refine b_d (cs:=#[.slice none 0 0]) ?_ 0 _ rfl;(with_reducible repeat (first|refine a_m ?_ _|refine a_o ?_|refine a_j ?_ _));exact a_M.out) hb);replace HB:=a_b.mk (a_h (by repeat (first|(with_reducible first|exact HB.out|apply a_e|apply a_c|apply a_f|refine a_d ?_ b_n.out)|exact HB.out)) hb);(try clear hb);(try clear hb2);(try clear hk);(try clear hi);have i_h : w16.cell? ⟨a_Z,0,none⟩ = some (.slice Ao14 t127.length co14):=(a_l a_M.out 0).trans rfl;have i_O:=a_i a_M.out 0)|((with_reducible refine a_s (f:=20) rfl ?_);refine a_O (some 18) rfl rfl Tryd.func20 (by kernel_rfl) rfl #[.agg #[.slice Ao14 t127.length co14],.int .i64 2,.int .u32 15] rfl (by (try simp only [List.map_toArray,List.map_cons,List.map_nil]);first|done|rfl|(simp only [List.length_drop,List.length_take];rfl)) ?_;(with_reducible refine (a_W.calls _ _ t127 2 15 t134 t137 _ ?side1 ?side2 ?side3 A3.out).mono ?_);(case side1 => repeat (first|exact (Kd.a_v a_G.out).2.2|(with_reducible refine Kd.a_I ?_ _)|(with_reducible refine Kd.a_J ?_ _)|(with_reducible refine Kd.a_X ?_)));(case side2 => exact (Kd.a_v a_G.out).2.1);(case side3 => exact b_p.below HTAB_.out (by repeat (first|(with_reducible first|exact HB.out|apply a_e|apply a_c|apply a_f|refine a_d ?_ b_n.out)|exact HB.out)));rintro e w18 ⟨v135,rfl,ho0,hb⟩;refine ⟨_,rfl,?_⟩;have c_I:=a_b.mk (Kd.b_i ho0 (a_g (by repeat (first|(with_reducible first|exact HB.out|apply a_e|apply a_c|apply a_f|refine a_d ?_ b_n.out)|exact HB.out))));replace a_G:=a_b.mk (Kd.a_B (rup_ a_G.out) hb);replace a_M:=a_b.mk (a_k (bup_ a_M.out) hb);replace HB:=a_b.mk (a_h (by repeat (first|(with_reducible first|exact HB.out|apply a_e|apply a_c|apply a_f|refine a_d ?_ b_n.out)|exact HB.out)) hb);(try clear hb);(try clear hb2);(try clear hk);(try clear hi);(try clear ho0);obtain ⟨Ao19,co19,eo19⟩:=Kd.b_E c_I.out;subst eo19;have p138 : 0 ≤ (1 : Int):=(by omega);have q138 : 1 < (t134.length : Int):=of_decide_eq_true (by first|(with_reducible assumption)|assumption);obtain ⟨ad138,e138,d_h⟩:=Kd.c_X (Kd.a_v c_I.out).2.2 1 p138 q138;cases e138;(try simp only [show (1 : Int).toNat = 1 from rfl,Nat.reduceMul,Nat.reduceEqDiff,Go.Addr.add, ↓reduceIte] at d_h);have qi138 : (1 < t134.length) = True:=eq_true (by omega);(try rw [show ((1 : Int)).toNat = 1 from rfl] at d_h);replace p138:=eq_true p138;replace q138:=eq_true q138;have f_y : w18.cell? ⟨a_Z,0,none⟩ = some (.slice Ao14 t127.length co14):=(a_l a_M.out 0).trans rfl;have f_F:=a_i a_M.out 0)|(go_at_call 29;(with_reducible refine (a_0.calls _ _ t127 1 t139 _ ?side1 ?side2 A11.out).mono ?_);(case side1 => repeat (first|exact (Kd.a_v a_G.out).2.2|(with_reducible refine Kd.a_I ?_ _)|(with_reducible refine Kd.a_J ?_ _)|(with_reducible refine Kd.a_X ?_)));(case side2 => exact (Kd.a_v a_G.out).2.1);rintro e w21 ⟨rfl,hb⟩;replace a_G:=a_b.mk (Kd.a_B (rup_ a_G.out) hb);replace c_I:=a_b.mk (Kd.a_B (rup_ c_I.out) hb);replace a_M:=a_b.mk (a_k (bup_ a_M.out) hb);replace HB:=a_b.mk (a_h (by repeat (first|(with_reducible first|exact HB.out|apply a_e|apply a_c|apply a_f|refine a_d ?_ b_n.out)|exact HB.out)) hb);(try clear hb);(try clear hb2);(try clear hk);(try clear hi)))
 go_ret
 exact ⟨by first|rfl|(simp [a_p,a_q] <;> rfl)|(simp [*, a_p,a_q] <;> rfl),by repeat (first|(with_reducible first|exact HB.out|apply a_e|apply a_c|apply a_f|refine a_d ?_ b_n.out)|exact HB.out)⟩
end Go.Proofs.YtcpfcehfgenljaaDoor.Q
end
section
namespace Go.Proofs.YtcpfcehfgenljaaDoor.Q
open Go.RowKit Go.Proofs.YtcpfcehfgenljaaDoorW.PrintWords Go.Proofs.YtcpfcehfgenljaaDoorW.PrintLast Go.Proofs.YtcpfcehfgenljaaDoorW.PrintMore
set_option linter.unusedVariables false
set_option linter.unusedSimpArgs false
def a_S.f (l0_0 : List (S56)) : Option ((List (S56))):=(some (([] : List (S56)) : List (S56))).bind fun y142 => (if y142.length + l0_0.length < 8796093022208 then (some (y142 ++ l0_0)) else (none))
set_option maxHeartbeats 8000000 in
set_option maxRecDepth 100000 in
theorem a_S.calls (A0_0 : Option Addr) (c0_0 : Nat) (l0_0 : List (S56)) (r : List (S56)) (w : World) (hr0_0 : Kd.C k56 w A0_0 l0_0.length l0_0) (hc0_0 : l0_0.length ≤ c0_0) (h : a_S.f l0_0 = some r) :
 Calls Tryd.prog 37 #[.agg #[.slice A0_0 l0_0.length c0_0]] w fun e w' => ∃ v0_ : Value,e = .returned (.agg #[v0_]) ∧ Kd.R k56 56 w' w.heap.size (fun _ => True) v0_ r ∧ Below w.heap.size w w':=by
 have hu24:=Tryd.underlying24
 have b_M:=a_b.mk hr0_0
 have b_S:=a_b.mk hc0_0
 clear hr0_0 hc0_0
 have HB:=a_b.mk (Below.refl w.heap.size w)
 have H : ((some (([] : List (S56)) : List (S56))).bind fun y142 => (if y142.length + l0_0.length < 8796093022208 then (some (y142 ++ l0_0)) else (none))) = some r:=h
 clear h
 obtain ⟨y142,hy142⟩ : ∃ y_ : List (S56),y_ = (([] : List (S56))):=⟨_,rfl⟩
 replace H : (if y142.length + l0_0.length < 8796093022208 then (some (y142 ++ l0_0)) else (none)) = some r:=by first|(rw [hy142];with_reducible exact H)|(have H2_:=(Option.bind_some _ _).symm.trans H;rw [hy142];with_reducible exact H2_)|(have H2_:=(Option.bind_some _ _).symm.trans H;with_reducible exact H2_)|with_reducible exact H|(rw [hy142];exact H)|exact H
 have Ny142:=a_b.mk hy142
 clear hy142
 by_cases c2 : y142.length + l0_0.length < 8796093022208
 rotate_left
 ·rw [if_neg c2] at H
  exact absurd H (by simp)
 rw [if_pos c2] at H
 have LMc2:=a_b.mk c2
 clear c2
 obtain ⟨y145,hy145⟩ : ∃ y_ : List (S56),y_ = (y142 ++ l0_0):=⟨_,rfl⟩
 replace H : (some y145) = some r:=by first|(rw [hy145];with_reducible exact H)|(have H2_:=(Option.bind_some _ _).symm.trans H;rw [hy145];with_reducible exact H2_)|(have H2_:=(Option.bind_some _ _).symm.trans H;with_reducible exact H2_)|with_reducible exact H|(rw [hy145];exact H)|exact H
 have Ny145:=a_b.mk hy145
 clear hy145
 obtain rfl:=Option.some.inj H
 go_enter Tryd.func37,Tryd.ntmps37
 go_wp2_with (first|((with_reducible refine a_D (N:=1) rfl ?_);refine a_A ?hg (N:=1) ?hd (cs:=#[.slice A0_0 l0_0.length c0_0]) (t:=24) ?hr ?_;(case hd => rfl);(case hg => rfl);(case hr => first|(go_simp;done)|(go_simp;rfl));intro e_1 hg w3 hbox hb;have c_8:=a_b.mk (hbox);have j_E:=a_b.mk ((by rw [hg];exact (a_g (lup_ HB.out)) : w.heap.size ≤ e_1));have d_6:=a_b.mk ((by rw [hg];exact (a_g (lup_ HB.out)) : w.heap.size ≤ e_1));replace HB:=a_b.mk (a_h (lup_ HB.out) hb);clear hb hbox hg)|((with_reducible refine a_D (N:=2) rfl ?_);refine a_A ?hg (N:=2) ?hd (cs:=#[.slice none 0 0]) (t:=24) ?hr ?_;(case hd => rfl);(case hg => rfl);(case hr => first|(go_simp;done)|(go_simp;rfl));intro e_f hg w4 hbox hb;have d_K:=a_b.mk (hbox);have j_F:=a_b.mk ((by rw [hg];exact (a_g (by repeat (first|(with_reducible first|exact HB.out|apply a_e|apply a_c|apply a_f|refine a_d ?_ d_6.out)|exact HB.out))) : w.heap.size ≤ e_f));have f_b:=a_b.mk ((by rw [hg];exact (a_g (by repeat (first|(with_reducible first|exact HB.out|apply a_e|apply a_c|apply a_f|refine a_d ?_ d_6.out)|exact HB.out))) : w.heap.size ≤ e_f));have f_e:=a_b.mk ((by rw [hg];exact Nat.ne_of_lt (a_1 (bup_ c_8.out)) : e_1 ≠ e_f));have f_f:=a_b.mk ((by rw [hg];exact Nat.ne_of_gt (a_1 (bup_ c_8.out)) : e_f ≠ e_1));replace c_8:=a_b.mk (a_k (bup_ c_8.out) hb);replace HB:=a_b.mk (a_h (by repeat (first|(with_reducible first|exact HB.out|apply a_e|apply a_c|apply a_f|refine a_d ?_ d_6.out)|exact HB.out)) hb);clear hb hbox hg)|((with_reducible refine a_D (N:=3) rfl ?_);refine Kd.h_W k56 _ 56 ?hg (N:=3) ?hd (xs:=([] : List (S56))) (inner:=[]) (ok:=fun _ => True) (okp:=fun _ => True) ?hr ?hp (fun _ hk => hk) trivial (Below.refl _ _) (Nat.le_refl _) (by simp) ?_;(case hd => rfl);(case hg => rfl);(case hr => first|(go_simp;done)|(go_simp;rfl));(case hp => exact (Reps.none _ _));intro v143 w5 ho6 hb hg_ hnew_;clear hg_ hnew_;(first|rw [← Ny142.out] at ho6|(simp only [Int.reduceToNat] at ho6;rw [← Ny142.out] at ho6));have f_4:=a_b.mk (Kd.b_i ho6 (a_g (by repeat (first|(with_reducible first|exact HB.out|apply a_e|apply a_c|apply a_f|refine a_d ?_ d_6.out|refine a_d ?_ f_b.out)|exact HB.out))));replace c_8:=a_b.mk (a_k (bup_ c_8.out) hb);replace d_K:=a_b.mk (a_k (bup_ d_K.out) hb);replace HB:=a_b.mk (a_h (by repeat (first|(with_reducible first|exact HB.out|apply a_e|apply a_c|apply a_f|refine a_d ?_ d_6.out|refine a_d ?_ f_b.out)|exact HB.out)) hb);clear hb ho6;have hnb7:=f_e.out;have hnc7:=f_f.out;have j_r : w5.cell? ⟨e_1,0,none⟩ = some (.slice A0_0 l0_0.length c0_0):=(a_l c_8.out 0).trans rfl;have j_w:=a_i c_8.out 0)|((with_reducible refine e_e (b:=.append) (xs:=#[.tmp 3,.tmp 5]) rfl ?_);at_builtin;refine Kd.d_M k56 (w0:=w) w.heap.size rfl (.tmp 3) (.tmp 5) 22 56 (.agg #[(.int .i64 0),(.int .i64 0)]) 16 rfl Tryd.underlying22 f_M rfl (by decide) (by omega) v143 y142 l0_0 _ _ _ (fun _ => True) (fun _ => False) rfl rfl ?aO ?aR (fun _ _ h => h) (fun _ h => h.elim) ?aF ?aB ?aS ?aL ?_;(case aR => repeat (first|exact (Kd.a_N b_M.out HB.out)|(with_reducible refine Kd.a_I ?_ _)|(with_reducible refine Kd.a_J ?_ _)|(with_reducible refine Kd.a_X ?_)));(case aB => exact (by repeat (first|(with_reducible first|exact HB.out|apply a_e|apply a_c|apply a_f|refine a_d ?_ d_6.out|refine a_d ?_ f_b.out)|exact HB.out)));(case aF => exact (fun _ _ => trivial));(case aO => exact (rup_ f_4.out));(case aS => exact (a_g (by repeat (first|(with_reducible first|exact HB.out|apply a_e|apply a_c|apply a_f|refine a_d ?_ d_6.out|refine a_d ?_ f_b.out)|exact HB.out))));(case aL => have:=LMc2.out;omega);intro v146 w9 ho hb hg hat;rw [← Ny145.out] at ho;have h_j:=a_b.mk (ho);replace c_8:=a_b.mk (c_A (g:=e_1) (o:=.cells #[.slice A0_0 l0_0.length c0_0] 24 (0,0)) (bup_ c_8.out) hg (Kd.R_ne f_4.out c_8.out (by decide)));replace d_K:=a_b.mk (c_A (g:=e_f) (o:=.cells #[.slice none 0 0] 24 (0,0)) (bup_ d_K.out) hg (Kd.R_ne f_4.out d_K.out (by decide)));replace HB:=a_b.mk (hb);clear f_4 ho hb hg hat;obtain ⟨Ao10,co10,eo10⟩:=Kd.b_E h_j.out;subst eo10;have c_N : w9.cell? ⟨e_f,0,none⟩ = some (.slice none 0 0):=(a_l d_K.out 0).trans rfl;have c_O:=a_i d_K.out 0))
 refine bodyPost_ret (results_cell_row rfl _ _ e_f 24 #[.slice Ao10 y145.length co10] (0,0) _ rfl (by (with_reducible repeat (first|refine a_m ?_ _|refine a_o ?_|refine a_j ?_ _));refine b_d (cs:=#[.slice none 0 0]) ?_ 0 _ rfl;(with_reducible repeat (first|refine a_m ?_ _|refine a_o ?_|refine a_j ?_ _));exact d_K.out) Tryd.underlying24 rfl (by kernel_rfl)) rfl ?_
 exact ⟨_,by first|rfl|(simp [a_p,a_q] <;> rfl)|(simp [*, a_p,a_q] <;> rfl),by (with_reducible repeat (first|apply Kd.a_K|apply Kd.a_L|apply Kd.a_T));exact Kd.b_u (Kd.b_1 (p:=⟨e_f,0,none⟩) (Kd.b_j h_j.out d_K.out (by decide)) (fun _ hk => hk.2) (.slice Ao10 y145.length co10)) (fun _ hk => trivial),by repeat (first|(with_reducible first|exact HB.out|apply a_e|apply a_c|apply a_f|refine a_d ?_ d_6.out|refine a_d ?_ f_b.out)|exact HB.out)⟩
end Go.Proofs.YtcpfcehfgenljaaDoor.Q
end
section
namespace Go.Proofs.YtcpfcehfgenljaaDoor.Q
open Go.RowKit Go.Proofs.YtcpfcehfgenljaaDoorW.PrintWords Go.Proofs.YtcpfcehfgenljaaDoorW.PrintLast Go.Proofs.YtcpfcehfgenljaaDoorW.PrintMore
set_option linter.unusedVariables false
set_option linter.unusedSimpArgs false
def a_E.f (l0_0 : List (S56)) : Option ((List (S56))):=if 0 ≤ (mn (l0_0.length : Int) 9) then (if (mn (l0_0.length : Int) 9) ≤ (l0_0.length : Int) then ((a_S.f (l0_0.take ((mn (l0_0.length : Int) 9) : Int).toNat)).bind fun t154 => (some t154)) else (none)) else (none)
set_option maxHeartbeats 8000000 in
set_option maxRecDepth 100000 in
theorem a_E.calls (A0_0 : Option Addr) (c0_0 : Nat) (l0_0 : List (S56)) (r : List (S56)) (w : World) (hr0_0 : Kd.C k56 w A0_0 l0_0.length l0_0) (hc0_0 : l0_0.length ≤ c0_0) (h : a_E.f l0_0 = some r) :
 Calls Tryd.prog 11 #[.agg #[.slice A0_0 l0_0.length c0_0]] w fun e w' => ∃ v0_ : Value,e = .returned (.agg #[v0_]) ∧ Kd.R k56 56 w' w.heap.size (fun _ => True) v0_ r ∧ Below w.heap.size w w':=by
 have hu24:=Tryd.underlying24
 have b_M:=a_b.mk hr0_0
 have b_S:=a_b.mk hc0_0
 clear hr0_0 hc0_0
 have HB:=a_b.mk (Below.refl w.heap.size w)
 have H : (if 0 ≤ (mn (l0_0.length : Int) 9) then (if (mn (l0_0.length : Int) 9) ≤ (l0_0.length : Int) then ((a_S.f (l0_0.take ((mn (l0_0.length : Int) 9) : Int).toNat)).bind fun t154 => (some t154)) else (none)) else (none)) = some r:=h
 clear h
 obtain ⟨ji2,hji2⟩ : ∃ j_ : Int,(mn (l0_0.length : Int) 9) = j_:=⟨_,rfl⟩
 replace H : (if 0 ≤ (ji2) then (if (ji2) ≤ (l0_0.length : Int) then ((a_S.f (l0_0.take ((ji2) : Int).toNat)).bind fun t154 => (some t154)) else (none)) else (none)) = some r:=by first|(rw [hji2] at H;exact H)|(simp only [hji2] at H ⊢; exact H)
 (try (have hji2h : ji2 ≤ 9:=by (rw [← hji2];unfold mn;(repeat' split) <;> omega)))
 (try (have hji2g : ji2 ≤ 64:=by omega))
 (try (have hji2l : 0 ≤ ji2:=by (rw [← hji2];unfold mn;(repeat' split) <;> omega)))
 (try (have hji2m : 0 ≤ ji2:=by omega))
 have hji2_ : (if 9 < (l0_0.length : Int) then 9 else (l0_0.length : Int)) = ji2:=hji2
 by_cases c3 : 0 ≤ (ji2)
 rotate_left
 ·rw [if_neg c3] at H
  exact absurd H (by simp)
 rw [if_pos c3] at H
 have c3b0:=eq_true c3
 have c3b1 : decide (0 ≤ (ji2)) = true:=decide_eq_true c3
 clear c3
 by_cases c4 : (ji2) ≤ (l0_0.length : Int)
 rotate_left
 ·rw [if_neg c4] at H
  exact absurd H (by simp)
 rw [if_pos c4] at H
 have c4b0:=eq_true c4
 have c4b1 : decide ((ji2) ≤ (l0_0.length : Int)) = true:=decide_eq_true c4
 clear c4
 obtain ⟨y150,hy150⟩ : ∃ y_ : List (S56),y_ = (l0_0.take ((ji2) : Int).toNat):=⟨_,rfl⟩
 replace H : ((a_S.f y150).bind fun t154 => (some t154)) = some r:=by first|(rw [hy150];with_reducible exact H)|(have H2_:=(Option.bind_some _ _).symm.trans H;rw [hy150];with_reducible exact H2_)|(have H2_:=(Option.bind_some _ _).symm.trans H;with_reducible exact H2_)|with_reducible exact H|(rw [hy150];exact H)|exact H
 have Ny150:=a_b.mk hy150
 clear hy150
 replace H:=Option.bind_eq_some_iff.mp H
 obtain ⟨t154,A50,H⟩:=H
 replace H : (some t154) = some r:=H
 have A5:=a_b.mk A50
 clear A50
 obtain rfl:=Option.some.inj H
 go_enter Tryd.func11,Tryd.ntmps11
 go_wp2_with (first|((with_reducible refine a_D (N:=1) rfl ?_);refine a_A ?hg (N:=1) ?hd (cs:=#[.slice A0_0 l0_0.length c0_0]) (t:=24) ?hr ?_;(case hd => rfl);(case hg => rfl);(case hr => first|(go_simp;done)|(go_simp;rfl));intro f_w hg w6 hbox hb;have d_5:=a_b.mk (hbox);have j_G:=a_b.mk ((by rw [hg];exact (a_g (lup_ HB.out)) : w.heap.size ≤ f_w));have e_R:=a_b.mk ((by rw [hg];exact (a_g (lup_ HB.out)) : w.heap.size ≤ f_w));replace HB:=a_b.mk (a_h (lup_ HB.out) hb);clear hb hbox hg)|((with_reducible refine a_D (N:=2) rfl ?_);refine a_A ?hg (N:=2) ?hd (cs:=#[.slice none 0 0]) (t:=24) ?hr ?_;(case hd => rfl);(case hg => rfl);(case hr => first|(go_simp;done)|(go_simp;rfl));intro e_x hg w7 hbox hb;have e_Q:=a_b.mk (hbox);have j_H:=a_b.mk ((by rw [hg];exact (a_g (by repeat (first|(with_reducible first|exact HB.out|apply a_e|apply a_c|apply a_f|refine a_d ?_ e_R.out)|exact HB.out))) : w.heap.size ≤ e_x));have g_F:=a_b.mk ((by rw [hg];exact (a_g (by repeat (first|(with_reducible first|exact HB.out|apply a_e|apply a_c|apply a_f|refine a_d ?_ e_R.out)|exact HB.out))) : w.heap.size ≤ e_x));have f_g:=a_b.mk ((by rw [hg];exact Nat.ne_of_lt (a_1 (bup_ d_5.out)) : f_w ≠ e_x));have f_h:=a_b.mk ((by rw [hg];exact Nat.ne_of_gt (a_1 (bup_ d_5.out)) : e_x ≠ f_w));replace d_5:=a_b.mk (a_k (bup_ d_5.out) hb);replace HB:=a_b.mk (a_h (by repeat (first|(with_reducible first|exact HB.out|apply a_e|apply a_c|apply a_f|refine a_d ?_ e_R.out)|exact HB.out)) hb);clear hb hbox hg;have hnb8:=f_g.out;have hnc8:=f_h.out;have j_s : w7.cell? ⟨f_w,0,none⟩ = some (.slice A0_0 l0_0.length c0_0):=(a_l d_5.out 0).trans rfl;have j_x:=a_i d_5.out 0;have q10 : ((ji2) : Int) ≤ ((l0_0.length : Int) : Int):=of_decide_eq_true (by first|(with_reducible assumption)|assumption);obtain ⟨i010,h_w,_,hsz10,_⟩:=info_parts f_M;have hroom10 : l0_0.length ≤ c0_0:=b_S.out;have hC10 : Kd.C k56 _ A0_0 l0_0.length l0_0:=b_M.out;have hcut10:=h_u (P:=Tryd.prog) 22 56 .i64 Tryd.underlying22 h_w A0_0 l0_0.length c0_0 (ji2) (of_decide_eq_true (by first|(with_reducible assumption)|assumption)) q10 hroom10;have hr10:=Kd.h_d (m:=((ji2) : Int).toNat) hC10 (by omega);have hy10 : y150.length = ((ji2) : Int).toNat:=(by rw [Ny150.out,List.length_take];omega);rw [← Ny150.out] at hr10;rw [← hy10] at hcut10;have h_U:=a_b.mk hr10;have h_S:=a_b.mk (show y150.length ≤ c0_0 from by omega);clear hr10 hC10 hroom10 h_w hsz10;have KY10:=a_b.mk hy10;clear hy10;replace q10:=eq_true q10)|((with_reducible refine a_s (f:=37) rfl ?_);refine a_O (some 11) rfl rfl Tryd.func37 (by kernel_rfl) rfl #[.agg #[.slice A0_0 y150.length c0_0]] rfl (by (try simp only [List.map_toArray,List.map_cons,List.map_nil]);first|done|rfl|(simp only [List.length_drop,List.length_take];rfl)) ?_;(with_reducible refine (a_S.calls _ _ y150 t154 _ ?side1 ?side2 A5.out).mono ?_);(case side1 => repeat (first|exact (Kd.a_N h_U.out HB.out)|(with_reducible refine Kd.a_I ?_ _)|(with_reducible refine Kd.a_J ?_ _)|(with_reducible refine Kd.a_X ?_)));(case side2 => exact h_S.out);rintro e w11 ⟨v155,rfl,ho0,hb⟩;refine ⟨_,rfl,?_⟩;have h_k:=a_b.mk (Kd.b_i ho0 (a_g (by repeat (first|(with_reducible first|exact HB.out|apply a_e|apply a_c|apply a_f|refine a_d ?_ e_R.out|refine a_d ?_ g_F.out)|exact HB.out))));replace d_5:=a_b.mk (a_k (bup_ d_5.out) hb);replace e_Q:=a_b.mk (a_k (bup_ e_Q.out) hb);replace HB:=a_b.mk (a_h (by repeat (first|(with_reducible first|exact HB.out|apply a_e|apply a_c|apply a_f|refine a_d ?_ e_R.out|refine a_d ?_ g_F.out)|exact HB.out)) hb);(try clear hb);(try clear hb2);(try clear hk);(try clear hi);(try clear ho0);obtain ⟨Ao12,co12,eo12⟩:=Kd.b_E h_k.out;subst eo12;have i_g : w11.cell? ⟨e_x,0,none⟩ = some (.slice none 0 0):=(a_l e_Q.out 0).trans rfl;have i_N:=a_i e_Q.out 0))
 refine bodyPost_ret (results_cell_row rfl _ _ e_x 24 #[.slice Ao12 t154.length co12] (0,0) _ rfl (by (with_reducible repeat (first|refine a_m ?_ _|refine a_o ?_|refine a_j ?_ _));refine b_d (cs:=#[.slice none 0 0]) ?_ 0 _ rfl;(with_reducible repeat (first|refine a_m ?_ _|refine a_o ?_|refine a_j ?_ _));exact e_Q.out) Tryd.underlying24 rfl (by kernel_rfl)) rfl ?_
 exact ⟨_,by first|rfl|(simp [a_p,a_q] <;> rfl)|(simp only [← hji2];first|rfl|(simp [a_p,a_q] <;> rfl))|(simp [*, a_p,a_q] <;> rfl),by (with_reducible repeat (first|apply Kd.a_K|apply Kd.a_L|apply Kd.a_T));exact Kd.b_u (Kd.b_1 (p:=⟨e_x,0,none⟩) (Kd.b_j h_k.out e_Q.out (by decide)) (fun _ hk => hk.2) (.slice Ao12 t154.length co12)) (fun _ hk => trivial),by repeat (first|(with_reducible first|exact HB.out|apply a_e|apply a_c|apply a_f|refine a_d ?_ e_R.out|refine a_d ?_ g_F.out)|exact HB.out)⟩
end Go.Proofs.YtcpfcehfgenljaaDoor.Q
end
