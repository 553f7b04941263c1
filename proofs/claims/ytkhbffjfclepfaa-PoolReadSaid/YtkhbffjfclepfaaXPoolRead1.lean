/- Part 2 of 5 of what the row of PoolRead stands on: contracts over the given program's functions, the plain law, the row; no condition beyond those that each theorem states. -/
import Derived.Test.YtkhbffjfclepfaaXPoolRead0
import Derived.Test.YtkhbffjfclepfaaProg
import Derived.Shelf.Abstract
import Derived.Test.YtkhbffjfclepfaaRows
import Derived.Deep.Slices
import Derived.ChangeArms
import Derived.DataReads
import Derived.ProofKit
import Derived.OpenShut
import Derived.ChangeOld
import Derived.SizedLaws
import Derived.WalkSpells
section
namespace Go.Proofs.Ytkhbffjfclepfaa
open Go.RowKit Go.Proofs.YtkhbffjfclepfaaW.PrintWords Go.Proofs.YtkhbffjfclepfaaW.PrintLast Go.Proofs.YtkhbffjfclepfaaW.PrintMore
def Up_ (w W : World) : Prop:=Below w.heap.size w W
instance (priority:=low) up0_ (w : World) : Nonempty (Up_ w w):=⟨Below.refl _ _⟩
instance upA_ (w W : World) (o : Obj) [h : Nonempty (Up_ w W)] : Nonempty (Up_ w (W.alloc o)):=h.elim fun h => ⟨a_e h o⟩
instance upN_ (w W : World) (n : Nat) [h : Nonempty (Up_ w W)] : Nonempty (Up_ w (W.drewN n)):=h.elim fun h => ⟨a_b h n⟩
instance upD_ (w W : World) [h : Nonempty (Up_ w W)] : Nonempty (Up_ w W.drew):=h.elim fun h => ⟨c_v h⟩
theorem bup_ {w W : World} {g : Nat} {o : Obj} (h : w.heap[g]? = some o) [u : Nonempty (Up_ w W)] : W.heap[g]? = some o:=u.elim fun b => a_d h b
theorem rup_ {α : Type} {d : Kd α} {e : Nat} {w W : World} {base : Nat} {ok : Nat → Prop} {v : Value} {xs : List α} (h : d.R e w base ok v xs) [u : Nonempty (Up_ w W)] : d.R e W base ok v xs:=u.elim fun b => Kd.a_B h b
theorem lup_ {w0 w W : World} (h : Below w0.heap.size w0 w) [u : Nonempty (Up_ w W)] : Below w0.heap.size w0 W:=u.elim fun b => a_h h b
abbrev T_ : Bool:=true
abbrev F_ : Bool:=false
end Go.Proofs.Ytkhbffjfclepfaa
end
section
namespace Go.Proofs.Ytkhbffjfclepfaa.Q
open Go.RowKit Go.Proofs.YtkhbffjfclepfaaW.PrintWords Go.Proofs.YtkhbffjfclepfaaW.PrintLast Go.Proofs.YtkhbffjfclepfaaW.PrintMore
set_option linter.unusedVariables false
set_option linter.unusedSimpArgs false
def errW : Option Int → Value
 | none => .nilIface
 | some c => .iface 0 (.int .i64 c)
theorem a_w : errW none = .nilIface:=rfl
theorem a_v (c : Int) : errW (some c) = .iface 0 (.int .i64 c):=rfl
theorem info5 : (Try.prog.info? 5).map (fun i => (i.zero,i.size,i.bytes)) = some (some (.int .u8 0),1,1):=by kernel_rfl
theorem d_Z : (Try.prog.info? 31).map (fun i => (i.zero,i.size,i.bytes)) = some (some (.int .u32 0),1,4):=by kernel_rfl
structure S36 where
 f0 : Int
 f1 : Int
 f2 : Int
 f3 : Int
 f4 : Int
def z36 : S36:=⟨(0 : Int),(0 : Int),(0 : Int),(0 : Int),(0 : Int)⟩
structure S26 where
 f0 : (List Int)
def z26 : S26:=⟨([] : List Int)⟩
def k26 : Kd S26:=Kd.iso (Kd.slice 31 (Kd.int .u32)) (fun x : S26 => x.f0)
theorem f_E {w : World} {x : S26} {cs : List Value} (h : k26.K w x cs) : ∃ A0 c0,cs = [.slice A0 x.f0.length c0] ∧ x.f0.length ≤ c0 ∧ (Kd.int .u32).C w A0 x.f0.length x.f0:=by
 obtain ⟨A0,c0,rfl,l0,g0⟩:=h
 exact ⟨A0,c0,rfl,l0,g0⟩
def idxOf {α : Type} (p : α → Bool) (xs : List α) : Int:=match xs.findIdx? p with|some i => i|none => -1
theorem idxOf_hit {α : Type} {p : α → Bool} {xs : List α} {k : Nat} (hk : k < xs.length) (h : p xs[k] = true) (hb : ∀ j (hj : j < k),p (xs[j]'(by omega)) = false) : idxOf p xs = k:=by
 unfold idxOf
 have : xs.findIdx? p = some k:=by
  rw [List.findIdx?_eq_some_iff_getElem]
  exact ⟨hk,h,fun j hj => by simp [hb j hj]⟩
 rw [this]
theorem idxOf_miss {α : Type} {p : α → Bool} {xs : List α} (hb : ∀ j (hj : j < xs.length),p xs[j] = false) : idxOf p xs = -1:=by
 unfold idxOf
 have : xs.findIdx? p = none:=by
  rw [List.findIdx?_eq_none_iff]
  intro x hx
  obtain ⟨j,hj,rfl⟩:=List.getElem_of_mem hx
  exact hb j hj
 rw [this]
theorem d_6 {α : Type} (p : α → Bool) (xs : List α) : decide (0 ≤ idxOf p xs) = xs.any p:=by
 unfold idxOf
 cases h : xs.findIdx? p with
 | none =>
  rw [List.findIdx?_eq_none_iff] at h
  have : xs.any p = false:=List.any_eq_false.2 fun x hx => by simp [h x hx]
  rw [this];rfl
 | some i =>
  rw [List.findIdx?_eq_some_iff_getElem] at h
  obtain ⟨hi,hp,_⟩:=h
  have : xs.any p = true:=List.any_eq_true.2 ⟨_,List.getElem_mem hi,hp⟩
  rw [this];simp
theorem b_V {w : World} {g j k B : Nat} {u : Value} (h : k < B) (hg : B ≤ g) : (w.setCell ⟨g,j,none⟩ u).heap[k]? = w.heap[k]?:=Below.heap_setCell w ⟨g,j,none⟩ u k (by show k ≠ g;omega)
end Go.Proofs.Ytkhbffjfclepfaa.Q
end
section
namespace Go.Proofs.Ytkhbffjfclepfaa.Q
open Go.RowKit Go.Proofs.YtkhbffjfclepfaaW.PrintWords Go.Proofs.YtkhbffjfclepfaaW.PrintLast Go.Proofs.YtkhbffjfclepfaaW.PrintMore
open Go.ChangeShapes Go.WideShapes Go.ChangeAt
set_option linter.unusedVariables false
set_option linter.unusedSimpArgs false
structure c_W (P : Program) (t : TypeId) {α : Type} (d : Kd α) (wf : α → Prop) : Prop where
 cells : P.cellsOf t = d.sz
 open_ : ∀ {H : Type} {enc : TypeId × Value → H} {w : World} {base : Nat} {spare : Nat → Bool} {held : Bool} {fuel : Nat} {cs : List Value} {x : DataW H × List MemPlace},
  DataW.trod enc P w base spare held fuel t cs = some x → ∃ v,d.K w v cs ∧ wf v
theorem c_W.int {P : Program} {t : TypeId} {k : IntKind} (ht : P.underlying t = some (.int k)) (hc : P.cellsOf t = 1) : c_W P t (Kd.int k) (fun n => (Lit.int k n).wf = true) :=
 ⟨hc,fun {H enc w base spare held fuel cs x} h => by
  cases fuel with
  | zero => simp [DataW.trod] at h
  | succ n =>
   unfold DataW.trod at h
   rw [ht] at h
   split at h <;> simp_all
   exact ⟨_,rfl,h.1.2⟩⟩
theorem c_W.bool {P : Program} {t : TypeId} (ht : P.underlying t = some .bool) (hc : P.cellsOf t = 1) : c_W P t Kd.bool (fun _ => True) :=
 ⟨hc,fun {H enc w base spare held fuel cs x} h => by
  cases fuel with
  | zero => simp [DataW.trod] at h
  | succ n =>
   unfold DataW.trod at h
   rw [ht] at h
   split at h
   all_goals first|exact ⟨_,rfl,trivial⟩|simp_all⟩
theorem e_R {α : Type} [Inhabited α] (m : Nat) (p : Nat → α → Prop) (h : ∀ i,i < m → ∃ v,p i v) : ∃ f : Nat → α, ∀ i,i < m → p i (f i):=by
 classical
 exact ⟨fun i => if hi : ∃ v,p i v then hi.choose else default,fun i hi => by
  have hx:=h i hi
  simp only [hx,dif_pos]
  exact hx.choose_spec⟩
theorem c_W.slice {P : Program} {t e : TypeId} {α : Type} {d : Kd α} {wf : α → Prop} [Inhabited α] (ht : P.underlying t = some (.slice e)) (hc : P.cellsOf t = 1) (he : c_W P e d wf) :
 c_W P t (Kd.slice e d) (fun l => l.length ≤ maxLen ∧ ∀ x ∈ l,wf x) :=
 ⟨hc,fun {H enc w base spare held fuel cs x} h => by
  rcases Go.Deep.open_slice ht h with ⟨rfl,_⟩ | ⟨a,len,cap,m,n,D,Pl,rfl,hb,hl,hm,hmm,_,hx⟩
  ·exact ⟨[],⟨none,0,rfl,Nat.le_refl _,⟨rfl,by simp,fun h => absurd h (Nat.lt_irrefl 0)⟩⟩,by simp,by simp⟩
  ·have hlm : len ≤ m:=by rw [hmm];split <;> omega
   obtain ⟨f,hf⟩:=e_R (α:=α) m (fun i v => ∃ cs',w.cells? base (a.add (i * P.cellsOf e)) (P.cellsOf e) = some cs' ∧ d.K w v cs' ∧ wf v) (fun i hi => by
    obtain ⟨cs',h1,h2⟩:=hx i hi
    obtain ⟨v,h3,h4⟩:=he.open_ h2
    exact ⟨v,cs',h1,h3,h4⟩)
   have hml : maxLen = 9223372036854775807:=rfl
   refine ⟨(List.range len).map f,⟨some a,cap,by simp,by simpa using hl,⟨by simp,by simp;omega,fun _ => ⟨a,rfl,fun j p hj => ?_⟩⟩⟩,by simp;omega,fun v hv => ?_⟩
   ·rw [List.getElem?_map] at hj
    obtain ⟨i,hi,rfl⟩:=Option.map_eq_some_iff.1 hj
    have hij : j < len:=by
     rcases Nat.lt_or_ge j len with h|h
     ·exact h
     ·rw [List.getElem?_eq_none (by simpa using h)] at hi;cases hi
    rw [List.getElem?_range hij] at hi
    injection hi with hi
    subst hi
    obtain ⟨cs',h1,h2,h3⟩:=hf j (by omega)
    obtain ⟨_,h4,h5⟩:=World.cells?_some h1
    rw [he.cells] at h4 h5 h1
    refine ⟨cs',h4,h2,fun i u hu => ?_⟩
    have hil : i < d.sz:=by
     rw [← h4]
     exact (List.getElem?_eq_some_iff.1 hu).1
    rw [show j * d.sz + i = j * d.sz + i from rfl, ← add_add,h5 i hil]
    exact hu
   ·obtain ⟨j,hj,rfl⟩:=List.mem_map.1 hv
    obtain ⟨_,_,_,h3⟩:=hf j (by have:=List.mem_range.1 hj;omega)
    exact h3⟩
theorem d_S {P : Program} {H : Type} {enc : TypeId × Value → H} {w : World} {base : Nat} {spare : Nat → Bool} {held : Bool} {fuel : Nat} {t : TypeId} {cs : List Value} {x : DataW H × List MemPlace} {fs : Array Field}
 (ht : P.underlying t = some (.struct fs)) (h : DataW.trod enc P w base spare held fuel t cs = some x) (i : Nat) {f : Field} (hf : fs[i]? = some f) {α : Type} {d : Kd α} {wf : α → Prop} (ho : c_W P f.type d wf) :
 ∃ v,d.K w v ((cs.drop f.offset).take d.sz) ∧ wf v:=by
 obtain ⟨xs,n,_,_,_,hl,hx⟩:=DataW.trod_struct ht h
 have h1:=hx i f hf
 have hi : i < xs.length:=by rw [hl];exact (Array.getElem?_eq_some_iff.1 hf).1
 rw [List.getElem?_eq_getElem hi,ho.cells] at h1
 exact ho.open_ h1
theorem d_2 {P : Program} {H : Type} {enc : TypeId × Value → H} {w : World} {base : Nat} {spare : Nat → Bool} {held : Bool} {fuel : Nat} {t : TypeId} {cs : List Value} {x : DataW H × List MemPlace} {fs : Array Field}
 (ht : P.underlying t = some (.struct fs)) (h : DataW.trod enc P w base spare held fuel t cs = some x) : cs.length = P.cellsOf t:=by
 obtain ⟨xs,n,_,_,hl,_⟩:=DataW.trod_struct ht h
 exact hl
theorem c_1 {α : Type} {cs : List α} {n : Nat} (h : cs.length = n + 1) : ∃ a l,cs = a :: l ∧ l.length = n:=by
 cases cs with
 | nil => simp at h
 | cons a l => exact ⟨a,l,rfl,by simpa using h⟩
theorem toList_eq {α : Type} {cs : Array α} {l : List α} (h : cs.toList = l) : cs = l.toArray:=by rw [← h]
theorem own : ownKnob Try.prog.godebug = none:=by kernel_rfl
theorem laidOut : laidOutB Try.prog = true:=by kernel_rfl
instance : Inhabited S26:=⟨z26⟩
def wf26 (x : S26) : Prop:=(fun l => l.length ≤ maxLen ∧ ∀ x ∈ l,(fun n => (Lit.int .u32 n).wf = true) x) x.f0
theorem op26 : c_W Try.prog 26 k26 wf26 :=
 ⟨by kernel_rfl,fun {H enc w base spare held fuel cs x} h => by
  have hl : cs.length = 1:=(d_2 Try.underlying26 h).trans (by kernel_rfl)
  obtain ⟨v0,h0,w0⟩:=d_S Try.underlying26 h 0 rfl (c_W.slice Try.underlying24 (by kernel_rfl) (c_W.int Try.underlying31 (by kernel_rfl)))
  obtain ⟨c0,l0,rfl,hm0⟩:=c_1 hl
  obtain rfl:=List.eq_nil_of_length_eq_zero hm0
  exact ⟨⟨v0⟩,h0,w0⟩⟩
instance : Inhabited S36:=⟨z36⟩
end Go.Proofs.Ytkhbffjfclepfaa.Q
end
section
namespace Go.Proofs.Ytkhbffjfclepfaa.Q
open Go.RowKit Go.Proofs.YtkhbffjfclepfaaW.PrintWords Go.Proofs.YtkhbffjfclepfaaW.PrintLast Go.Proofs.YtkhbffjfclepfaaW.PrintMore
set_option linter.unusedVariables false
set_option linter.unusedSimpArgs false
def a_W.f (l0_0 : List Int) : Option (List Int):=(some (([] : List Int) : List Int)).bind fun y144 => (if y144.length + l0_0.length < 35184372088832 then (some (y144 ++ l0_0)) else (none))
set_option maxHeartbeats 8000000 in
set_option maxRecDepth 100000 in
theorem a_W.calls (A0_0 : Option Addr) (c0_0 : Nat) (l0_0 : List Int) (r : List Int) (w : World) (hr0_0 : Kd.C (Kd.int .u32) w A0_0 l0_0.length l0_0) (hc0_0 : l0_0.length ≤ c0_0) (h : a_W.f l0_0 = some r) :
 Calls Try.prog 15 #[.agg #[.slice A0_0 l0_0.length c0_0]] w fun e w' => ∃ v0_ : Value,e = .returned (.agg #[v0_]) ∧ Kd.R (Kd.int .u32) 31 w' w.heap.size (fun _ => True) v0_ r ∧ Below w.heap.size w w':=by
 have hu26:=Try.underlying26
 have b_X:=a_a.mk hr0_0
 have c_o:=a_a.mk hc0_0
 clear hr0_0 hc0_0
 have HB:=a_a.mk (Below.refl w.heap.size w)
 have H : ((some (([] : List Int) : List Int)).bind fun y144 => (if y144.length + l0_0.length < 35184372088832 then (some (y144 ++ l0_0)) else (none))) = some r:=h
 clear h
 obtain ⟨y144,hy144⟩ : ∃ y_ : List Int,y_ = (([] : List Int)):=⟨_,rfl⟩
 replace H : (if y144.length + l0_0.length < 35184372088832 then (some (y144 ++ l0_0)) else (none)) = some r:=by first|(rw [hy144];with_reducible exact H)|(have H2_:=(Option.bind_some _ _).symm.trans H;rw [hy144];with_reducible exact H2_)|(have H2_:=(Option.bind_some _ _).symm.trans H;with_reducible exact H2_)|with_reducible exact H|(rw [hy144];exact H)|exact H
 have Ny144:=a_a.mk hy144
 clear hy144
 by_cases c2 : y144.length + l0_0.length < 35184372088832
 rotate_left
 ·rw [if_neg c2] at H
  exact absurd H (by simp)
 rw [if_pos c2] at H
 have LMc2:=a_a.mk c2
 clear c2
 obtain ⟨y147,hy147⟩ : ∃ y_ : List Int,y_ = (y144 ++ l0_0):=⟨_,rfl⟩
 replace H : (some y147) = some r:=by first|(rw [hy147];with_reducible exact H)|(have H2_:=(Option.bind_some _ _).symm.trans H;rw [hy147];with_reducible exact H2_)|(have H2_:=(Option.bind_some _ _).symm.trans H;with_reducible exact H2_)|with_reducible exact H|(rw [hy147];exact H)|exact H
 have Ny147:=a_a.mk hy147
 clear hy147
 obtain rfl:=Option.some.inj H
 go_enter Try.func15,Try.ntmps15
 go_wp2_with (first|((with_reducible refine a_t (N:=1) rfl ?_);refine a_s ?hg (N:=1) ?hd (cs:=#[.slice A0_0 l0_0.length c0_0]) (t:=26) ?hr ?_;(case hd => rfl);(case hg => rfl);(case hr => first|(go_simp;done)|(go_simp;rfl));intro e_S hg w3 hbox hb;have d_e:=a_a.mk (hbox);have i_r:=a_a.mk ((by rw [hg];exact (a_l (lup_ HB.out)) : w.heap.size ≤ e_S));have d_9:=a_a.mk ((by rw [hg];exact (a_l (lup_ HB.out)) : w.heap.size ≤ e_S));replace HB:=a_a.mk (a_h (lup_ HB.out) hb);clear hb hbox hg)|((with_reducible refine a_t (N:=2) rfl ?_);refine a_s ?hg (N:=2) ?hd (cs:=#[.slice none 0 0]) (t:=26) ?hr ?_;(case hd => rfl);(case hg => rfl);(case hr => first|(go_simp;done)|(go_simp;rfl));intro e_a hg w4 hbox hb;have d_L:=a_a.mk (hbox);have i_s:=a_a.mk ((by rw [hg];exact (a_l (by repeat (first|(with_reducible first|exact HB.out|apply a_e|apply a_b|apply a_g|refine a_c ?_ d_9.out)|exact HB.out))) : w.heap.size ≤ e_a));have f_e:=a_a.mk ((by rw [hg];exact (a_l (by repeat (first|(with_reducible first|exact HB.out|apply a_e|apply a_b|apply a_g|refine a_c ?_ d_9.out)|exact HB.out))) : w.heap.size ≤ e_a));have f_f:=a_a.mk ((by rw [hg];exact Nat.ne_of_lt (a_j (bup_ d_e.out)) : e_S ≠ e_a));have f_g:=a_a.mk ((by rw [hg];exact Nat.ne_of_gt (a_j (bup_ d_e.out)) : e_a ≠ e_S));replace d_e:=a_a.mk (a_d (bup_ d_e.out) hb);replace HB:=a_a.mk (a_h (by repeat (first|(with_reducible first|exact HB.out|apply a_e|apply a_b|apply a_g|refine a_c ?_ d_9.out)|exact HB.out)) hb);clear hb hbox hg)|((with_reducible refine a_t (N:=3) rfl ?_);refine Kd.d_q (Kd.int .u32) _ 31 ?hg (N:=3) ?hd (xs:=([] : List Int)) (inner:=[]) (ok:=fun _ => True) (okp:=fun _ => True) ?hr ?hp (fun _ hk => hk) trivial (Below.refl _ _) (Nat.le_refl _) (by simp) ?_;(case hd => rfl);(case hg => rfl);(case hr => first|(go_simp;done)|(go_simp;rfl));(case hp => exact (Reps.none _ _));intro v145 w5 ho6 hb hg_ hnew_;clear hg_ hnew_;(first|rw [← Ny144.out] at ho6|(simp only [Int.reduceToNat] at ho6;rw [← Ny144.out] at ho6));have f_T:=a_a.mk (Kd.a_Z ho6 (a_l (by repeat (first|(with_reducible first|exact HB.out|apply a_e|apply a_b|apply a_g|refine a_c ?_ d_9.out|refine a_c ?_ f_e.out)|exact HB.out))));replace d_e:=a_a.mk (a_d (bup_ d_e.out) hb);replace d_L:=a_a.mk (a_d (bup_ d_L.out) hb);replace HB:=a_a.mk (a_h (by repeat (first|(with_reducible first|exact HB.out|apply a_e|apply a_b|apply a_g|refine a_c ?_ d_9.out|refine a_c ?_ f_e.out)|exact HB.out)) hb);clear hb ho6;have hnb7:=f_f.out;have hnc7:=f_g.out;have g_V : w5.cell? ⟨e_S,0,none⟩ = some (.slice A0_0 l0_0.length c0_0):=(a_k d_e.out 0).trans rfl;have g_W:=a_i d_e.out 0)|((with_reducible refine b_1 (b:=.append) (xs:=#[.tmp 3,.tmp 5]) rfl ?_);at_builtin;refine Kd.c_L (Kd.int .u32) (w0:=w) w.heap.size rfl (.tmp 3) (.tmp 5) 24 31 (.int .u32 0) 4 rfl Try.underlying24 d_Z rfl (by decide) (by omega) v145 y144 l0_0 _ _ _ (fun _ => True) (fun _ => False) rfl rfl ?aO ?aR (fun _ _ h => h) (fun _ h => h.elim) ?aF ?aB ?aS ?aL ?_;(case aR => repeat (first|exact (Kd.a_L b_X.out HB.out)|(with_reducible refine Kd.a_R ?_ _)|(with_reducible refine Kd.a_V ?_ _)|(with_reducible refine Kd.a_3 ?_)));(case aB => exact (by repeat (first|(with_reducible first|exact HB.out|apply a_e|apply a_b|apply a_g|refine a_c ?_ d_9.out|refine a_c ?_ f_e.out)|exact HB.out)));(case aF => exact (fun _ _ => trivial));(case aO => exact (rup_ f_T.out));(case aS => exact (a_l (by repeat (first|(with_reducible first|exact HB.out|apply a_e|apply a_b|apply a_g|refine a_c ?_ d_9.out|refine a_c ?_ f_e.out)|exact HB.out))));(case aL => have:=LMc2.out;omega);intro v148 w9 ho hb hg hat;rw [← Ny147.out] at ho;have g_X:=a_a.mk (ho);replace d_e:=a_a.mk (b_z (g:=e_S) (o:=.cells #[.slice A0_0 l0_0.length c0_0] 26 (0,0)) (bup_ d_e.out) hg (Kd.R_ne f_T.out d_e.out (by decide)));replace d_L:=a_a.mk (b_z (g:=e_a) (o:=.cells #[.slice none 0 0] 26 (0,0)) (bup_ d_L.out) hg (Kd.R_ne f_T.out d_L.out (by decide)));replace HB:=a_a.mk (hb);clear f_T ho hb hg hat;obtain ⟨Ao10,co10,eo10⟩:=Kd.a_U g_X.out;subst eo10;have g_j : w9.cell? ⟨e_a,0,none⟩ = some (.slice none 0 0):=(a_k d_L.out 0).trans rfl;have g_k:=a_i d_L.out 0))
 refine bodyPost_ret (results_cell_row rfl _ _ e_a 26 #[.slice Ao10 y147.length co10] (0,0) _ rfl (by (with_reducible repeat (first|refine a_p ?_ _|refine a_n ?_|refine a_q ?_ _));refine a_I (cs:=#[.slice none 0 0]) ?_ 0 _ rfl;(with_reducible repeat (first|refine a_p ?_ _|refine a_n ?_|refine a_q ?_ _));exact d_L.out) Try.underlying26 rfl (by kernel_rfl)) rfl ?_
 exact ⟨_,by first|rfl|(simp [a_w,a_v] <;> rfl)|(simp [*, a_w,a_v] <;> rfl),by (with_reducible repeat (first|apply Kd.a_E|apply Kd.a_D|apply Kd.a_H));exact Kd.a_Q (Kd.b_l (p:=⟨e_a,0,none⟩) (Kd.a_O g_X.out d_L.out (by decide)) (fun _ hk => hk.2) (.slice Ao10 y147.length co10)) (fun _ hk => trivial),by repeat (first|(with_reducible first|exact HB.out|apply a_e|apply a_b|apply a_g|refine a_c ?_ d_9.out|refine a_c ?_ f_e.out)|exact HB.out)⟩
end Go.Proofs.Ytkhbffjfclepfaa.Q
end
section
namespace Go.Proofs.Ytkhbffjfclepfaa.Q
open Go.RowKit Go.Proofs.YtkhbffjfclepfaaW.PrintWords Go.Proofs.YtkhbffjfclepfaaW.PrintLast Go.Proofs.YtkhbffjfclepfaaW.PrintMore
set_option linter.unusedVariables false
set_option linter.unusedSimpArgs false
def a_M.f (l0_0 : List Int) : Option (List Int):=if 0 ≤ (mn (l0_0.length : Int) 12) then (if (mn (l0_0.length : Int) 12) ≤ (l0_0.length : Int) then ((a_W.f (l0_0.take ((mn (l0_0.length : Int) 12) : Int).toNat)).bind fun t153 => (some t153)) else (none)) else (none)
set_option maxHeartbeats 8000000 in
set_option maxRecDepth 100000 in
theorem a_M.calls (A0_0 : Option Addr) (c0_0 : Nat) (l0_0 : List Int) (r : List Int) (w : World) (hr0_0 : Kd.C (Kd.int .u32) w A0_0 l0_0.length l0_0) (hc0_0 : l0_0.length ≤ c0_0) (h : a_M.f l0_0 = some r) :
 Calls Try.prog 11 #[.agg #[.slice A0_0 l0_0.length c0_0]] w fun e w' => ∃ v0_ : Value,e = .returned (.agg #[v0_]) ∧ Kd.R (Kd.int .u32) 31 w' w.heap.size (fun _ => True) v0_ r ∧ Below w.heap.size w w':=by
 have hu26:=Try.underlying26
 have b_X:=a_a.mk hr0_0
 have c_o:=a_a.mk hc0_0
 clear hr0_0 hc0_0
 have HB:=a_a.mk (Below.refl w.heap.size w)
 have H : (if 0 ≤ (mn (l0_0.length : Int) 12) then (if (mn (l0_0.length : Int) 12) ≤ (l0_0.length : Int) then ((a_W.f (l0_0.take ((mn (l0_0.length : Int) 12) : Int).toNat)).bind fun t153 => (some t153)) else (none)) else (none)) = some r:=h
 clear h
 obtain ⟨ji2,hji2⟩ : ∃ j_ : Int,(mn (l0_0.length : Int) 12) = j_:=⟨_,rfl⟩
 replace H : (if 0 ≤ (ji2) then (if (ji2) ≤ (l0_0.length : Int) then ((a_W.f (l0_0.take ((ji2) : Int).toNat)).bind fun t153 => (some t153)) else (none)) else (none)) = some r:=by first|(rw [hji2] at H;exact H)|(simp only [hji2] at H ⊢; exact H)
 (try (have hji2h : ji2 ≤ 12:=by (rw [← hji2];unfold mn;(repeat' split) <;> omega)))
 (try (have hji2g : ji2 ≤ 64:=by omega))
 (try (have hji2l : 0 ≤ ji2:=by (rw [← hji2];unfold mn;(repeat' split) <;> omega)))
 (try (have hji2m : 0 ≤ ji2:=by omega))
 have hji2_ : (if 12 < (l0_0.length : Int) then 12 else (l0_0.length : Int)) = ji2:=hji2
 by_cases c3 : 0 ≤ (ji2)
 rotate_left
 ·rw [if_neg c3] at H
  exact absurd H (by simp)
 rw [if_pos c3] at H
 have c3b0:=eq_true c3
 have c3b1 : decide (0 ≤ (ji2)) = true:=decide_eq_true c3
 clear c3
 by_cases c4 : (ji2) ≤ (l0_0.length : Int)
 rotate_left
 ·rw [if_neg c4] at H
  exact absurd H (by simp)
 rw [if_pos c4] at H
 have c4b0:=eq_true c4
 have c4b1 : decide ((ji2) ≤ (l0_0.length : Int)) = true:=decide_eq_true c4
 clear c4
 replace H:=Option.bind_eq_some_iff.mp H
 obtain ⟨t153,A50,H⟩:=H
 replace H : (some t153) = some r:=H
 have A5:=a_a.mk A50
 clear A50
 obtain rfl:=Option.some.inj H
 go_enter Try.func11,Try.ntmps11
 go_wp2_with (first|((with_reducible refine a_t (N:=1) rfl ?_);refine a_s ?hg (N:=1) ?hd (cs:=#[.slice A0_0 l0_0.length c0_0]) (t:=26) ?hr ?_;(case hd => rfl);(case hg => rfl);(case hr => first|(go_simp;done)|(go_simp;rfl));intro f_h hg w6 hbox hb;have e_b:=a_a.mk (hbox);have i_t:=a_a.mk ((by rw [hg];exact (a_l (lup_ HB.out)) : w.heap.size ≤ f_h));have e_T:=a_a.mk ((by rw [hg];exact (a_l (lup_ HB.out)) : w.heap.size ≤ f_h));replace HB:=a_a.mk (a_h (lup_ HB.out) hb);clear hb hbox hg)|((with_reducible refine a_t (N:=2) rfl ?_);refine a_s ?hg (N:=2) ?hd (cs:=#[.slice none 0 0]) (t:=26) ?hr ?_;(case hd => rfl);(case hg => rfl);(case hr => first|(go_simp;done)|(go_simp;rfl));intro e_u hg w7 hbox hb;have e_U:=a_a.mk (hbox);have i_u:=a_a.mk ((by rw [hg];exact (a_l (by repeat (first|(with_reducible first|exact HB.out|apply a_e|apply a_b|apply a_g|refine a_c ?_ e_T.out)|exact HB.out))) : w.heap.size ≤ e_u));have g_l:=a_a.mk ((by rw [hg];exact (a_l (by repeat (first|(with_reducible first|exact HB.out|apply a_e|apply a_b|apply a_g|refine a_c ?_ e_T.out)|exact HB.out))) : w.heap.size ≤ e_u));have f_i:=a_a.mk ((by rw [hg];exact Nat.ne_of_lt (a_j (bup_ e_b.out)) : f_h ≠ e_u));have f_j:=a_a.mk ((by rw [hg];exact Nat.ne_of_gt (a_j (bup_ e_b.out)) : e_u ≠ f_h));replace e_b:=a_a.mk (a_d (bup_ e_b.out) hb);replace HB:=a_a.mk (a_h (by repeat (first|(with_reducible first|exact HB.out|apply a_e|apply a_b|apply a_g|refine a_c ?_ e_T.out)|exact HB.out)) hb);clear hb hbox hg;have hnb8:=f_i.out;have hnc8:=f_j.out;have i_p : w7.cell? ⟨f_h,0,none⟩ = some (.slice A0_0 l0_0.length c0_0):=(a_k e_b.out 0).trans rfl;have i_q:=a_i e_b.out 0;obtain ⟨i010,f_k,_,hsz10,_⟩:=info_parts d_Z;obtain ⟨hcut10,hA10,hC10⟩:=d_I (P:=Try.prog) (Value.int .u32) 0 24 31 .i64 Try.underlying24 f_k hsz10 A0_0 c0_0 l0_0 (ji2) (of_decide_eq_true (by first|(with_reducible assumption)|assumption)) (of_decide_eq_true (by first|(with_reducible assumption)|assumption)) c_o.out;have h_l:=a_a.mk (Kd.d_u (h1:=fun _ => rfl) (hA10 _ (Kd.c_w b_X.out)));have h_m:=a_a.mk hC10;clear hA10 hC10 f_k hsz10)|((with_reducible refine a_y (f:=15) rfl ?_);refine a_9 (some 11) rfl rfl Try.func15 (by kernel_rfl) rfl #[.agg #[.slice A0_0 (l0_0.take ((ji2) : Int).toNat).length c0_0]] rfl (by (try simp only [List.map_toArray,List.map_cons,List.map_nil]);first|done|(rw [show (l0_0.take ((ji2) : Int).toNat).length = (ji2).toNat from (by rw [List.length_take];have h_ : ((ji2) : Int) ≤ (l0_0.length : Int):=of_decide_eq_true (by first|(with_reducible assumption)|assumption);omega)] <;> rfl)|(simp only [hji2];rfl)|rfl|(simp only [List.length_drop,List.length_take];rfl)) ?_;(with_reducible refine (a_W.calls _ _ (l0_0.take ((ji2) : Int).toNat) t153 _ ?side1 ?side2 A5.out).mono ?_);(case side1 => repeat (first|exact (Kd.a_L h_l.out HB.out)|(with_reducible refine Kd.a_R ?_ _)|(with_reducible refine Kd.a_V ?_ _)|(with_reducible refine Kd.a_3 ?_)));(case side2 => exact h_m.out);rintro e w11 ⟨v154,rfl,ho0,hb⟩;refine ⟨_,rfl,?_⟩;have g_Y:=a_a.mk (Kd.a_Z ho0 (a_l (by repeat (first|(with_reducible first|exact HB.out|apply a_e|apply a_b|apply a_g|refine a_c ?_ e_T.out|refine a_c ?_ g_l.out)|exact HB.out))));replace e_b:=a_a.mk (a_d (bup_ e_b.out) hb);replace e_U:=a_a.mk (a_d (bup_ e_U.out) hb);replace HB:=a_a.mk (a_h (by repeat (first|(with_reducible first|exact HB.out|apply a_e|apply a_b|apply a_g|refine a_c ?_ e_T.out|refine a_c ?_ g_l.out)|exact HB.out)) hb);(try clear hb);(try clear hb2);(try clear hk);(try clear hi);(try clear ho0);obtain ⟨Ao12,co12,eo12⟩:=Kd.a_U g_Y.out;subst eo12;have g_m : w11.cell? ⟨e_u,0,none⟩ = some (.slice none 0 0):=(a_k e_U.out 0).trans rfl;have g_n:=a_i e_U.out 0))
 refine bodyPost_ret (results_cell_row rfl _ _ e_u 26 #[.slice Ao12 t153.length co12] (0,0) _ rfl (by (with_reducible repeat (first|refine a_p ?_ _|refine a_n ?_|refine a_q ?_ _));refine a_I (cs:=#[.slice none 0 0]) ?_ 0 _ rfl;(with_reducible repeat (first|refine a_p ?_ _|refine a_n ?_|refine a_q ?_ _));exact e_U.out) Try.underlying26 rfl (by kernel_rfl)) rfl ?_
 exact ⟨_,by first|rfl|(simp [a_w,a_v] <;> rfl)|(simp only [← hji2];first|rfl|(simp [a_w,a_v] <;> rfl))|(simp [*, a_w,a_v] <;> rfl),by (with_reducible repeat (first|apply Kd.a_E|apply Kd.a_D|apply Kd.a_H));exact Kd.a_Q (Kd.b_l (p:=⟨e_u,0,none⟩) (Kd.a_O g_Y.out e_U.out (by decide)) (fun _ hk => hk.2) (.slice Ao12 t153.length co12)) (fun _ hk => trivial),by repeat (first|(with_reducible first|exact HB.out|apply a_e|apply a_b|apply a_g|refine a_c ?_ e_T.out|refine a_c ?_ g_l.out)|exact HB.out)⟩
end Go.Proofs.Ytkhbffjfclepfaa.Q
end
section
namespace Go.Proofs.Ytkhbffjfclepfaa.Q
open Go.RowKit Go.Proofs.YtkhbffjfclepfaaW.PrintWords Go.Proofs.YtkhbffjfclepfaaW.PrintLast Go.Proofs.YtkhbffjfclepfaaW.PrintMore
set_option linter.unusedVariables false
set_option linter.unusedSimpArgs false
def a_C.l0 : Nat → List Int → List Int → Int → Int → Option (Bool)
 | 0,_,_,_,_ => none
 | k + 1,x0,x1,x12,x13 => if x13 < x12 then (if 0 ≤ x13 then (if x13 < (x0.length : Int) then (if x13 < (x1.length : Int) then (if (rd x0 x13) = (rd x1 x13) then (a_C.l0 k x0 x1 x12 (wrap64 (x13 + 1))) else (some false)) else (none)) else (none)) else (none)) else (some true)
def a_C.f (k : Nat) (l0 : List Int) (l1 : List Int) : Option (Bool):=if (l0.length : Int) = (l1.length : Int) then (a_C.l0 k l0 l1 (l0.length : Int) 0) else (some false)
theorem a_C.b_0 : ∀ k,(∀ y0 y1 y2 y3,LeO (a_C.l0 k y0 y1 y2 y3) (a_C.l0 (k + 1) y0 y1 y2 y3))
 | 0 => fun _ _ _ _ r h => by simp [a_C.l0] at h
 | k + 1 => by
  have ih0:=a_C.b_0 k
  ·intro y0 y1 y2 y3
   unfold a_C.l0
   repeat' first
   | (with_reducible exact ih0 _ _ _ _)
   | (with_reducible exact LeO.refl _)
   | (with_reducible exact LeO.none _)
   | (with_reducible refine LeO.ite ?_ ?_)
   | (with_reducible refine LeO.bind ?_ (fun _ => ?_))
   | exact ih0 _ _ _ _
   | exact LeO.none _
   | refine LeO.ite ?_ ?_
   | refine LeO.bind ?_ (fun _ => ?_)
theorem a_C.mono : ∀ a0 a1 k,LeO (a_C.f k a0 a1) (a_C.f (k + 1) a0 a1):=by
 intro a0 a1 k
 have ih0:=a_C.b_0 k
 unfold a_C.f
 repeat' first
  | (with_reducible exact ih0 _ _ _ _)
  | (with_reducible exact LeO.refl _)
  | (with_reducible exact LeO.none _)
  | (with_reducible refine LeO.ite ?_ ?_)
  | (with_reducible refine LeO.bind ?_ (fun _ => ?_))
  | exact ih0 _ _ _ _
  | exact LeO.none _
  | refine LeO.ite ?_ ?_
  | refine LeO.bind ?_ (fun _ => ?_)
set_option maxHeartbeats 8000000 in
set_option maxRecDepth 100000 in
theorem a_C.calls (k : Nat) (A0 : Option Addr) (c0 : Nat) (l0 : List Int) (A1 : Option Addr) (c1 : Nat) (l1 : List Int) (r : Bool) (w : World) (hr0 : Kd.C (Kd.int .u32) w A0 l0.length l0) (hc0 : l0.length ≤ c0) (hr1 : Kd.C (Kd.int .u32) w A1 l1.length l1) (hc1 : l1.length ≤ c1) (h : a_C.f k l0 l1 = some r) :
 Calls Try.prog 39 #[.slice A0 l0.length c0,.slice A1 l1.length c1] w fun e w' => e = .returned (.bool r) ∧ a_N w w':=by
 have HR0:=a_a.mk hr0
 have HC0:=a_a.mk hc0
 clear hr0 hc0
 have HR1:=a_a.mk hr1
 have HC1:=a_a.mk hc1
 clear hr1 hc1
 have H : (if (l0.length : Int) = (l1.length : Int) then (a_C.l0 k l0 l1 (l0.length : Int) 0) else (some false)) = some r:=h
 clear h
 by_cases c3 : (l0.length : Int) = (l1.length : Int)
 rotate_left
 ·rw [if_neg c3] at H
  have c3b0 : ((l0.length : Int) == (l1.length : Int)) = false:=beq_eq_false_iff_ne.mpr c3
  have c3b1 : ((l0.length : Int) != (l1.length : Int)) = true:=bne_iff_ne.mpr c3
  have c3b2 : (l0.length == l1.length) = false:=by first|simpa using c3|(simp at c3 ⊢; omega)
  obtain rfl:=Option.some.inj H
  go_enter Try.func39,Try.ntmps39
  go_wp2
  repeat (go_quiet (fail);try go_wp2)
  go_ret
  exact ⟨by first|rfl|(simp;done)|(simp [*];done),by repeat (first|exact a_N.refl _|apply a_N.step)⟩
 rw [if_pos c3] at H
 have c3b0 : ((l0.length : Int) == (l1.length : Int)) = true:=beq_iff_eq.mpr c3
 have c3b1 : ((l0.length : Int) != (l1.length : Int)) = false:=bne_eq_false_iff_eq.mpr c3
 have c3b2 : (l0.length == l1.length) = true:=by first|simpa using c3|(simp at c3 ⊢; omega)
 clear c3
 have H':=a_a.mk H
 clear H
 go_enter Try.func39,Try.ntmps39
 go_wp2
 repeat (go_quiet (fail);try go_wp2)
 go_loopg [13] k (fun kq v13 w' => ∃ (x13_1 : Int),v13 = .int .i64 x13_1 ∧ a_a (a_C.l0 kq l0 l1 (l0.length : Int) x13_1 = some r) ∧ a_a (kq ≤ k) ∧ a_N w w')
 case atStart => exact ⟨(0),(by first|rfl|(simp;done)|(simp [*];done)),H',⟨Nat.le_refl _⟩,by repeat (first|exact a_N.refl _|apply a_N.step)⟩
 case round =>
  clear H'
  try clear c1
  try clear p2
  try clear c3
  try clear c3b0
  try clear c3b1
  try clear c3b2
  obtain ⟨x13_1,rfl,HA,HK1,⟨m1,rfl⟩⟩:=hrel
  cases gk with
  | zero => exact absurd HA.out (by simp [a_C.l0])
  | succ k1 =>
   have H:=HA.out
   clear HA
   simp only [a_C.l0] at H
   by_cases c4 : x13_1 < (l0.length : Int)
   rotate_left
   ·rw [if_neg c4] at H
    have c4b0 : decide (x13_1 < (l0.length : Int)) = false:=decide_eq_false c4
    clear c4
    obtain rfl:=Option.some.inj H
    go_wp2
    repeat (go_quiet (fail);try go_wp2)
    go_ret
    exact ⟨by first|rfl|(simp;done)|(simp [*];done),by repeat (first|exact a_N.refl _|apply a_N.step)⟩
   rw [if_pos c4] at H
   have c4b0 : decide (x13_1 < (l0.length : Int)) = true:=decide_eq_true c4
   clear c4
   by_cases c5 : 0 ≤ x13_1
   rotate_left
   ·rw [if_neg c5] at H
    exact absurd H (by simp)
   rw [if_pos c5] at H
   have c5b0 : decide (0 ≤ x13_1) = true:=decide_eq_true c5
   clear c5
   by_cases c6 : x13_1 < (l0.length : Int)
   rotate_left
   ·rw [if_neg c6] at H
    exact absurd H (by simp)
   rw [if_pos c6] at H
   have c6b0 : decide (x13_1 < (l0.length : Int)) = true:=decide_eq_true c6
   clear c6
   by_cases c7 : x13_1 < (l1.length : Int)
   rotate_left
   ·rw [if_neg c7] at H
    exact absurd H (by simp)
   rw [if_pos c7] at H
   have c7b0 : decide (x13_1 < (l1.length : Int)) = true:=decide_eq_true c7
   clear c7
   by_cases c8 : (rd l0 x13_1) = (rd l1 x13_1)
   rotate_left
   ·rw [if_neg c8] at H
    have c8b0 : ((rd l0 x13_1) == (rd l1 x13_1)) = false:=beq_eq_false_iff_ne.mpr c8
    have c8b1 : ((rd l0 x13_1) != (rd l1 x13_1)) = true:=bne_iff_ne.mpr c8
    obtain rfl:=Option.some.inj H
    have p295 : 0 ≤ (x13_1 : Int):=of_decide_eq_true (by first|(with_reducible assumption)|assumption)
    have q295 : x13_1 < (l0.length : Int):=of_decide_eq_true (by first|(with_reducible assumption)|assumption)
    obtain ⟨ad295,e295,g_o⟩:=Kd.b_R HR0.out x13_1 p295 q295
    cases e295
    replace p295:=eq_true p295
    replace q295:=eq_true q295
    have p296 : 0 ≤ (x13_1 : Int):=of_decide_eq_true (by first|(with_reducible assumption)|assumption)
    have q296 : x13_1 < (l1.length : Int):=of_decide_eq_true (by first|(with_reducible assumption)|assumption)
    obtain ⟨ad296,e296,g_p⟩:=Kd.b_R HR1.out x13_1 p296 q296
    cases e296
    replace p296:=eq_true p296
    replace q296:=eq_true q296
    go_wp2
    repeat (go_quiet (fail);try go_wp2)
    go_ret
    exact ⟨by first|rfl|(simp;done)|(simp [*];done),by repeat (first|exact a_N.refl _|apply a_N.step)⟩
   rw [if_pos c8] at H
   have c8b0 : ((rd l0 x13_1) == (rd l1 x13_1)) = true:=beq_iff_eq.mpr c8
   have c8b1 : ((rd l0 x13_1) != (rd l1 x13_1)) = false:=bne_eq_false_iff_eq.mpr c8
   clear c8
   have H':=a_a.mk H
   clear H
   have p295 : 0 ≤ (x13_1 : Int):=of_decide_eq_true (by first|(with_reducible assumption)|assumption)
   have q295 : x13_1 < (l0.length : Int):=of_decide_eq_true (by first|(with_reducible assumption)|assumption)
   obtain ⟨ad295,e295,g_o⟩:=Kd.b_R HR0.out x13_1 p295 q295
   cases e295
   replace p295:=eq_true p295
   replace q295:=eq_true q295
   have p296 : 0 ≤ (x13_1 : Int):=of_decide_eq_true (by first|(with_reducible assumption)|assumption)
   have q296 : x13_1 < (l1.length : Int):=of_decide_eq_true (by first|(with_reducible assumption)|assumption)
   obtain ⟨ad296,e296,g_p⟩:=Kd.b_R HR1.out x13_1 p296 q296
   cases e296
   replace p296:=eq_true p296
   replace q296:=eq_true q296
   go_wp2
   repeat (go_quiet (fail);try go_wp2)
   go_roundg k1
   case measure => have:=HK1.out;omega
   case rel => exact ⟨(wrap64 (x13_1 + 1)),(by first|rfl|(simp;done)|(simp [*];done)),H',⟨by have:=HK1.out;omega⟩,by repeat (first|exact a_N.refl _|apply a_N.step)⟩
end Go.Proofs.Ytkhbffjfclepfaa.Q
end
section
namespace Go.Proofs.Ytkhbffjfclepfaa.Q
open Go.RowKit Go.Proofs.YtkhbffjfclepfaaW.PrintWords Go.Proofs.YtkhbffjfclepfaaW.PrintLast Go.Proofs.YtkhbffjfclepfaaW.PrintMore
set_option linter.unusedVariables false
set_option linter.unusedSimpArgs false
def a_S.f (k : Nat) (l0_0 : List Int) (l1_0 : List Int) : Option (Bool):=(a_C.f k l0_0 l1_0).bind fun t299 => (some t299)
theorem a_S.mono : ∀ a0 a1 k,LeO (a_S.f k a0 a1) (a_S.f (k + 1) a0 a1):=by
 intro a0 a1 k
 unfold a_S.f
 repeat' first
  | (with_reducible exact a_C.mono _ _ _)
  | (with_reducible exact LeO.refl _)
  | (with_reducible exact LeO.none _)
  | (with_reducible refine LeO.ite ?_ ?_)
  | (with_reducible refine LeO.bind ?_ (fun _ => ?_))
  | exact a_C.mono _ _ _
  | exact LeO.none _
  | refine LeO.ite ?_ ?_
  | refine LeO.bind ?_ (fun _ => ?_)
set_option maxHeartbeats 8000000 in
set_option maxRecDepth 100000 in
theorem a_S.calls (k : Nat) (A0_0 : Option Addr) (c0_0 : Nat) (l0_0 : List Int) (A1_0 : Option Addr) (c1_0 : Nat) (l1_0 : List Int) (r : Bool) (w : World) (hr0_0 : Kd.C (Kd.int .u32) w A0_0 l0_0.length l0_0) (hc0_0 : l0_0.length ≤ c0_0) (hr1_0 : Kd.C (Kd.int .u32) w A1_0 l1_0.length l1_0) (hc1_0 : l1_0.length ≤ c1_0) (h : a_S.f k l0_0 l1_0 = some r) :
 Calls Try.prog 18 #[.agg #[.slice A0_0 l0_0.length c0_0],.agg #[.slice A1_0 l1_0.length c1_0]] w fun e w' => e = .returned (.bool r) ∧ Below w.heap.size w w':=by
 have hu26:=Try.underlying26
 have b_X:=a_a.mk hr0_0
 have c_o:=a_a.mk hc0_0
 clear hr0_0 hc0_0
 have h_n:=a_a.mk hr1_0
 have h_o:=a_a.mk hc1_0
 clear hr1_0 hc1_0
 have HB:=a_a.mk (Below.refl w.heap.size w)
 have H : ((a_C.f k l0_0 l1_0).bind fun t299 => (some t299)) = some r:=h
 clear h
 replace H:=Option.bind_eq_some_iff.mp H
 obtain ⟨t299,A30,H⟩:=H
 replace H : (some t299) = some r:=H
 have A3:=a_a.mk A30
 clear A30
 obtain rfl:=Option.some.inj H
 go_enter Try.func18,Try.ntmps18
 go_wp2_with (first|((with_reducible refine a_t (N:=2) rfl ?_);refine a_s ?hg (N:=2) ?hd (cs:=#[.slice A0_0 l0_0.length c0_0]) (t:=26) ?hr ?_;(case hd => rfl);(case hg => rfl);(case hr => first|(go_simp;done)|(go_simp;rfl));intro f_l hg w4 hbox hb;have e_V:=a_a.mk (hbox);have i_v:=a_a.mk ((by rw [hg];exact (a_l (lup_ HB.out)) : w.heap.size ≤ f_l));have f_U:=a_a.mk ((by rw [hg];exact (a_l (lup_ HB.out)) : w.heap.size ≤ f_l));replace HB:=a_a.mk (a_h (lup_ HB.out) hb);clear hb hbox hg)|((with_reducible refine a_t (N:=3) rfl ?_);refine a_s ?hg (N:=3) ?hd (cs:=#[.slice A1_0 l1_0.length c1_0]) (t:=26) ?hr ?_;(case hd => rfl);(case hg => rfl);(case hr => first|(go_simp;done)|(go_simp;rfl));intro f_m hg w5 hbox hb;have g_Z:=a_a.mk (hbox);have i_w:=a_a.mk ((by rw [hg];exact (a_l (by repeat (first|(with_reducible first|exact HB.out|apply a_e|apply a_b|apply a_g|refine a_c ?_ f_U.out)|exact HB.out))) : w.heap.size ≤ f_m));have h_p:=a_a.mk ((by rw [hg];exact (a_l (by repeat (first|(with_reducible first|exact HB.out|apply a_e|apply a_b|apply a_g|refine a_c ?_ f_U.out)|exact HB.out))) : w.heap.size ≤ f_m));have f_n:=a_a.mk ((by rw [hg];exact Nat.ne_of_lt (a_j (bup_ e_V.out)) : f_l ≠ f_m));have f_o:=a_a.mk ((by rw [hg];exact Nat.ne_of_gt (a_j (bup_ e_V.out)) : f_m ≠ f_l));replace e_V:=a_a.mk (a_d (bup_ e_V.out) hb);replace HB:=a_a.mk (a_h (by repeat (first|(with_reducible first|exact HB.out|apply a_e|apply a_b|apply a_g|refine a_c ?_ f_U.out)|exact HB.out)) hb);clear hb hbox hg;have hnb6:=f_n.out;have hnc6:=f_o.out;have d_x : w5.cell? ⟨f_l,0,none⟩ = some (.slice A0_0 l0_0.length c0_0):=(a_k e_V.out 0).trans rfl;have d_y:=a_i e_V.out 0;have g_V : w5.cell? ⟨f_m,0,none⟩ = some (.slice A1_0 l1_0.length c1_0):=(a_k g_Z.out 0).trans rfl;have g_W:=a_i g_Z.out 0)|((with_reducible refine a_y (f:=39) rfl ?_);refine a_9 (some 9) rfl rfl Try.func39 (by kernel_rfl) rfl #[.slice A0_0 l0_0.length c0_0,.slice A1_0 l1_0.length c1_0] rfl (by (try simp only [List.map_toArray,List.map_cons,List.map_nil]);first|done|rfl|(simp only [List.length_drop,List.length_take];rfl)) ?_;(with_reducible refine (a_C.calls k _ _ l0_0 _ _ l1_0 t299 _ ?side1 ?side2 ?side3 ?side4 A3.out).mono ?_);(case side1 => repeat (first|exact (Kd.a_L b_X.out HB.out)|(with_reducible refine Kd.a_R ?_ _)|(with_reducible refine Kd.a_V ?_ _)|(with_reducible refine Kd.a_3 ?_)));(case side2 => exact c_o.out);(case side3 => repeat (first|exact (Kd.a_L h_n.out HB.out)|(with_reducible refine Kd.a_R ?_ _)|(with_reducible refine Kd.a_V ?_ _)|(with_reducible refine Kd.a_3 ?_)));(case side4 => exact h_o.out);rintro e w' ⟨rfl,⟨nd,rfl⟩⟩;refine ⟨_,rfl,?_⟩))
 go_ret
 exact ⟨by first|rfl|(simp [a_w,a_v] <;> rfl)|(simp [*, a_w,a_v] <;> rfl),by repeat (first|(with_reducible first|exact HB.out|apply a_e|apply a_b|apply a_g|refine a_c ?_ f_U.out|refine a_c ?_ h_p.out)|exact HB.out)⟩
end Go.Proofs.Ytkhbffjfclepfaa.Q
end
section
namespace Go.Proofs.Ytkhbffjfclepfaa.Q
open Go.RowKit Go.Proofs.YtkhbffjfclepfaaW.PrintWords Go.Proofs.YtkhbffjfclepfaaW.PrintLast Go.Proofs.YtkhbffjfclepfaaW.PrintMore
set_option linter.unusedVariables false
set_option linter.unusedSimpArgs false
def a_F.f (a0 : Int) : Option (Int):=if (Go.bits .andNot .u32 a0 255) = 0 then (some 0) else (some 140)
set_option maxHeartbeats 8000000 in
set_option maxRecDepth 100000 in
theorem a_F.calls (a0 : Int) (r : Int) (w : World) (h : a_F.f a0 = some r) :
 Calls Try.prog 38 #[.int .u32 a0] w fun e w' => e = .returned (.int .i64 r) ∧ a_N w w':=by
 have H : (if (Go.bits .andNot .u32 a0 255) = 0 then (some 0) else (some 140)) = some r:=h
 clear h
 by_cases c2 : (Go.bits .andNot .u32 a0 255) = 0
 ·rw [if_pos c2] at H
  have c2b0 : ((Go.bits .andNot .u32 a0 255) == 0) = true:=beq_iff_eq.mpr c2
  have c2b1 : ((Go.bits .andNot .u32 a0 255) != 0) = false:=bne_eq_false_iff_eq.mpr c2
  clear c2
  obtain rfl:=Option.some.inj H
  go_enter Try.func38,Try.ntmps38
  go_wp2
  go_ret
  exact ⟨by first|rfl|(simp;done)|(simp [*];done),by repeat (first|exact a_N.refl _|apply a_N.step)⟩
 rw [if_neg c2] at H
 have c2b0 : ((Go.bits .andNot .u32 a0 255) == 0) = false:=beq_eq_false_iff_ne.mpr c2
 have c2b1 : ((Go.bits .andNot .u32 a0 255) != 0) = true:=bne_iff_ne.mpr c2
 obtain rfl:=Option.some.inj H
 go_enter Try.func38,Try.ntmps38
 go_wp2
 go_ret
 exact ⟨by first|rfl|(simp;done)|(simp [*];done),by repeat (first|exact a_N.refl _|apply a_N.step)⟩
end Go.Proofs.Ytkhbffjfclepfaa.Q
end
section
namespace Go.Proofs.Ytkhbffjfclepfaa.Q
open Go.RowKit Go.Proofs.YtkhbffjfclepfaaW.PrintWords Go.Proofs.YtkhbffjfclepfaaW.PrintLast Go.Proofs.YtkhbffjfclepfaaW.PrintMore
set_option linter.unusedVariables false
set_option linter.unusedSimpArgs false
mutual
def a_m.j0 : Nat → Bool → List Int → Option (Int)
 | 0,_,_ => none
 | k + 1,x3,x108000 => a_m.l0 k x3 0 x108000 (x108000.length : Int) 0
def a_m.l0 : Nat → Bool → Int → List Int → Int → Int → Option (Int)
 | 0,_,_,_,_,_ => none
 | k + 1,x3,x4,x18,x19,x20 => if x20 < x19 then (if 0 ≤ x20 then (if x20 < (x18.length : Int) then (if x3 = true then (if (rd x18 x20) = 0 then (a_m.l0 k false (Go.bits .or .u32 x4 (rd x18 x20)) x18 x19 (wrap64 (x20 + 1))) else ((a_F.f (rd x18 x20)).bind fun t109 => (if t109 = 0 then (a_m.l0 k ((Go.bits .and .u32 (rd x18 x20) x4) == 0) (Go.bits .or .u32 x4 (rd x18 x20)) x18 x19 (wrap64 (x20 + 1))) else (a_m.l0 k false (Go.bits .or .u32 x4 (rd x18 x20)) x18 x19 (wrap64 (x20 + 1)))))) else (a_m.l0 k false (Go.bits .or .u32 x4 (rd x18 x20)) x18 x19 (wrap64 (x20 + 1)))) else (none)) else (none)) else (if x3 = true then (if (Go.bits .and .u32 x4 ((x4 + 1) % 4294967296)) = 0 then (some 0) else (some 180)) else (some 180))
end
def a_m.f (k : Nat) (l0_0 : List Int) : Option (Int):=if (l0_0.length : Int) > 0 then (a_m.j0 k (decide ((l0_0.length : Int) ≤ 4)) l0_0) else (a_m.j0 k false l0_0)
theorem a_m.b_0 : ∀ k,(∀ y0 y1,LeO (a_m.j0 k y0 y1) (a_m.j0 (k + 1) y0 y1)) ∧ (∀ y0 y1 y2 y3 y4,LeO (a_m.l0 k y0 y1 y2 y3 y4) (a_m.l0 (k + 1) y0 y1 y2 y3 y4))
 | 0 => ⟨fun _ _ r h => by simp [a_m.j0] at h,fun _ _ _ _ _ r h => by simp [a_m.l0] at h⟩
 | k + 1 => by
  obtain ⟨ih0,ih1⟩:=a_m.b_0 k
  refine ⟨?_,?_⟩
  ·intro y0 y1
   unfold a_m.j0
   repeat' first
   | (with_reducible exact ih0 _ _)
   | (with_reducible exact ih1 _ _ _ _ _)
   | (with_reducible exact LeO.refl _)
   | (with_reducible exact LeO.none _)
   | (with_reducible refine LeO.ite ?_ ?_)
   | (with_reducible refine LeO.bind ?_ (fun _ => ?_))
   | exact ih0 _ _
   | exact ih1 _ _ _ _ _
   | exact LeO.none _
   | refine LeO.ite ?_ ?_
   | refine LeO.bind ?_ (fun _ => ?_)
  ·intro y0 y1 y2 y3 y4
   unfold a_m.l0
   repeat' first
   | (with_reducible exact ih0 _ _)
   | (with_reducible exact ih1 _ _ _ _ _)
   | (with_reducible exact LeO.refl _)
   | (with_reducible exact LeO.none _)
   | (with_reducible refine LeO.ite ?_ ?_)
   | (with_reducible refine LeO.bind ?_ (fun _ => ?_))
   | exact ih0 _ _
   | exact ih1 _ _ _ _ _
   | exact LeO.none _
   | refine LeO.ite ?_ ?_
   | refine LeO.bind ?_ (fun _ => ?_)
theorem a_m.mono : ∀ a0 k,LeO (a_m.f k a0) (a_m.f (k + 1) a0):=by
 intro a0 k
 obtain ⟨ih0,ih1⟩:=a_m.b_0 k
 unfold a_m.f
 repeat' first
  | (with_reducible exact ih0 _ _)
  | (with_reducible exact ih1 _ _ _ _ _)
  | (with_reducible exact LeO.refl _)
  | (with_reducible exact LeO.none _)
  | (with_reducible refine LeO.ite ?_ ?_)
  | (with_reducible refine LeO.bind ?_ (fun _ => ?_))
  | exact ih0 _ _
  | exact ih1 _ _ _ _ _
  | exact LeO.none _
  | refine LeO.ite ?_ ?_
  | refine LeO.bind ?_ (fun _ => ?_)
set_option maxHeartbeats 8000000 in
set_option maxRecDepth 100000 in
theorem a_m.calls (k : Nat) (A0_0 : Option Addr) (c0_0 : Nat) (l0_0 : List Int) (r : Int) (w : World) (hr0_0 : Kd.C (Kd.int .u32) w A0_0 l0_0.length l0_0) (hc0_0 : l0_0.length ≤ c0_0) (h : a_m.f k l0_0 = some r) :
 Calls Try.prog 17 #[.agg #[.slice A0_0 l0_0.length c0_0]] w fun e w' => e = .returned (.int .i64 r) ∧ Below w.heap.size w w':=by
 have hu26:=Try.underlying26
 have b_X:=a_a.mk hr0_0
 have c_o:=a_a.mk hc0_0
 clear hr0_0 hc0_0
 have HB:=a_a.mk (Below.refl w.heap.size w)
 have H : (if (l0_0.length : Int) > 0 then (a_m.j0 k (decide ((l0_0.length : Int) ≤ 4)) l0_0) else (a_m.j0 k false l0_0)) = some r:=h
 clear h
 have HC2:=a_a.mk H
 clear H
 go_enter Try.func17,Try.ntmps17
 go_upto_region 1 with (first|((with_reducible refine a_t (N:=1) rfl ?_);(try (refine b_D (by rfl) ?_;dsimp only));refine a_s ?hg (N:=1) ?hd (cs:=#[.slice A0_0 l0_0.length c0_0]) (t:=26) ?hr ?_;(case hd => rfl);(case hg => rfl);(case hr => first|(go_simp;done)|(go_simp;rfl));intro e_v hg w3 hbox hb;have c_D:=a_a.mk (hbox);have i_x:=a_a.mk ((by rw [hg];exact (a_l (lup_ HB.out)) : w.heap.size ≤ e_v));have d_s:=a_a.mk ((by rw [hg];exact (a_l (lup_ HB.out)) : w.heap.size ≤ e_v));replace HB:=a_a.mk (a_h (lup_ HB.out) hb);clear hb hbox hg))
 (try simp only [Act.put,List.setIfInBounds_toArray,List.set_cons_zero,List.set_cons_succ])
 go_cut [3] (fun v3 wc => ∃ (kq : Nat) (x3_1 : Bool),v3 = .bool x3_1 ∧ a_a (a_m.j0 kq x3_1 l0_0 = some r) ∧ a_a (kq ≤ k) ∧ a_a (wc.heap[e_v]? = some (.cells #[(.slice A0_0 l0_0.length c0_0)] 26 (0,0))) ∧ a_a (Below w.heap.size w wc))
 case first =>
  have H:=HC2.out
  clear HC2
  by_cases c4 : (l0_0.length : Int) > 0
  ·rw [if_pos c4] at H
   have c4b0 : decide (0 < (l0_0.length : Int)) = true:=decide_eq_true c4
   have c4b1 : decide (0 < l0_0.length) = true:=decide_eq_true (by omega)
   clear c4
   (first|rw [c4b0]|(simp only [d_V,d_7];rw [c4b0])|skip)
   have H':=a_a.mk H
   clear H
   have e_M : w3.cell? ⟨e_v,0,none⟩ = some (.slice A0_0 l0_0.length c0_0):=(a_k c_D.out 0).trans rfl
   have e_N:=a_i c_D.out 0
   go_wp2
   go_meet
   case rel => exact ⟨_,(decide ((l0_0.length : Int) ≤ 4)),(by first|rfl|(simp;done)|(simp [*];done)),H',⟨by first|omega|exact Nat.le_refl _⟩,⟨by (with_reducible repeat (first|refine a_p ?_ _|refine a_n ?_|refine a_q ?_ _));exact c_D.out⟩,⟨by repeat (first|(with_reducible first|exact HB.out|apply a_e|apply a_b|apply a_g|refine a_c ?_ d_s.out)|exact HB.out)⟩⟩
  rw [if_neg c4] at H
  have c4b0 : decide (0 < (l0_0.length : Int)) = false:=decide_eq_false c4
  have c4b1 : decide (0 < l0_0.length) = false:=decide_eq_false (by omega)
  clear c4
  (first|rw [c4b0]|(simp only [d_V,d_7];rw [c4b0])|skip)
  have H':=a_a.mk H
  clear H
  have f_p : w3.cell? ⟨e_v,0,none⟩ = some (.slice A0_0 l0_0.length c0_0):=(a_k c_D.out 0).trans rfl
  have f_q:=a_i c_D.out 0
  go_wp2
  go_meet
  case rel => exact ⟨_,(false),(by first|rfl|(simp;done)|(simp [*];done)),H',⟨by first|omega|exact Nat.le_refl _⟩,⟨by (with_reducible repeat (first|refine a_p ?_ _|refine a_n ?_|refine a_q ?_ _));exact c_D.out⟩,⟨by repeat (first|(with_reducible first|exact HB.out|apply a_e|apply a_b|apply a_g|refine a_c ?_ d_s.out)|exact HB.out)⟩⟩
 case rest =>
  clear HC2
  try clear c1
  try clear p2
  try clear c4
  try clear c4b0
  try clear c4b1
  try clear e_M
  try clear f_p
  try clear e_N
  try clear f_q
  obtain ⟨kq,x3_1,rfl,HA,HJ1,c_D,HB⟩:=hcut
  cases kq with
  | zero => exact absurd HA.out (by simp [a_m.j0])
  | succ kj1 =>
   have H:=HA.out
   clear HA
   simp only [a_m.j0] at H
   have H':=a_a.mk H
   clear H
   have d_x : wc.cell? ⟨e_v,0,none⟩ = some (.slice A0_0 l0_0.length c0_0):=(a_k c_D.out 0).trans rfl
   have d_y:=a_i c_D.out 0
   go_wp2
   go_loopg [3,4,20] kj1 (fun kq v3 v4 v20 w' => ∃ (x3_2 : Bool) (x4_2 : Int) (x20_2 : Int),v3 = .bool x3_2 ∧ v4 = .int .u32 x4_2 ∧ v20 = .int .i64 x20_2 ∧ a_a (a_m.l0 kq x3_2 x4_2 l0_0 (l0_0.length : Int) x20_2 = some r) ∧ a_a (kq ≤ kj1) ∧ a_a (w'.heap[e_v]? = some (.cells #[(.slice A0_0 l0_0.length c0_0)] 26 (0,0))) ∧ a_a (Below w.heap.size w w'))
   case atStart => exact ⟨(x3_1),(0),(0),(by first|rfl|(simp;done)|(simp [*];done)),(by first|rfl|(simp;done)|(simp [*];done)),(by first|rfl|(simp;done)|(simp [*];done)),H',⟨Nat.le_refl _⟩,⟨by (with_reducible repeat (first|refine a_p ?_ _|refine a_n ?_|refine a_q ?_ _));exact c_D.out⟩,⟨by repeat (first|(with_reducible first|exact HB.out|apply a_e|apply a_b|apply a_g|refine a_c ?_ d_s.out)|exact HB.out)⟩⟩
   case round =>
    clear H'
    try clear c1
    try clear p2
    try clear c4
    try clear c4b0
    try clear c4b1
    try clear e_M
    try clear f_p
    try clear d_x
    try clear e_N
    try clear f_q
    try clear d_y
    try clear p2
    obtain ⟨x3_2,x4_2,x20_2,rfl,rfl,rfl,HA,HK2,c_D,HB⟩:=hrel
    cases gk with
    | zero => exact absurd HA.out (by simp [a_m.l0])
    | succ k2 =>
     have H:=HA.out
     clear HA
     simp only [a_m.l0] at H
     by_cases c8 : x20_2 < (l0_0.length : Int)
     rotate_left
     ·rw [if_neg c8] at H
      have c8b0 : decide (x20_2 < (l0_0.length : Int)) = false:=decide_eq_false c8
      clear c8
      by_cases c15 : x3_2 = true
      rotate_left
      ·replace c15:=Bool.eq_false_iff.mpr c15
       subst c15
       have H1 : (some 180) = some r:=by rw [if_neg (show ¬ (false = true) by decide)] at H;exact H
       clear H
       have H:=H1
       clear H1
       obtain rfl:=Option.some.inj H
       go_wp2
       go_ret
       exact ⟨by first|rfl|(simp [a_w,a_v] <;> rfl)|(simp [*, a_w,a_v] <;> rfl),by repeat (first|(with_reducible first|exact HB.out|apply a_e|apply a_b|apply a_g|refine a_c ?_ d_s.out)|exact HB.out)⟩
      subst c15
      have H1 : (if (Go.bits .and .u32 x4_2 ((x4_2 + 1) % 4294967296)) = 0 then (some 0) else (some 180)) = some r:=by rw [if_pos rfl] at H;exact H
      clear H
      have H:=H1
      clear H1
      by_cases c16 : (Go.bits .and .u32 x4_2 ((x4_2 + 1) % 4294967296)) = 0
      ·rw [if_pos c16] at H
       have c16b0 : ((Go.bits .and .u32 x4_2 ((x4_2 + 1) % 4294967296)) == 0) = true:=beq_iff_eq.mpr c16
       have c16b1 : ((Go.bits .and .u32 x4_2 ((x4_2 + 1) % 4294967296)) != 0) = false:=bne_eq_false_iff_eq.mpr c16
       clear c16
       obtain rfl:=Option.some.inj H
       go_wp2
       go_ret
       exact ⟨by first|rfl|(simp [a_w,a_v] <;> rfl)|(simp [*, a_w,a_v] <;> rfl),by repeat (first|(with_reducible first|exact HB.out|apply a_e|apply a_b|apply a_g|refine a_c ?_ d_s.out)|exact HB.out)⟩
      rw [if_neg c16] at H
      have c16b0 : ((Go.bits .and .u32 x4_2 ((x4_2 + 1) % 4294967296)) == 0) = false:=beq_eq_false_iff_ne.mpr c16
      have c16b1 : ((Go.bits .and .u32 x4_2 ((x4_2 + 1) % 4294967296)) != 0) = true:=bne_iff_ne.mpr c16
      obtain rfl:=Option.some.inj H
      go_wp2
      go_ret
      exact ⟨by first|rfl|(simp [a_w,a_v] <;> rfl)|(simp [*, a_w,a_v] <;> rfl),by repeat (first|(with_reducible first|exact HB.out|apply a_e|apply a_b|apply a_g|refine a_c ?_ d_s.out)|exact HB.out)⟩
     rw [if_pos c8] at H
     have c8b0 : decide (x20_2 < (l0_0.length : Int)) = true:=decide_eq_true c8
     clear c8
     by_cases c9 : 0 ≤ x20_2
     rotate_left
     ·rw [if_neg c9] at H
      exact absurd H (by simp)
     rw [if_pos c9] at H
     have c9b0 : decide (0 ≤ x20_2) = true:=decide_eq_true c9
     clear c9
     by_cases c10 : x20_2 < (l0_0.length : Int)
     rotate_left
     ·rw [if_neg c10] at H
      exact absurd H (by simp)
     rw [if_pos c10] at H
     have c10b0 : decide (x20_2 < (l0_0.length : Int)) = true:=decide_eq_true c10
     clear c10
     by_cases c11 : x3_2 = true
     rotate_left
     ·replace c11:=Bool.eq_false_iff.mpr c11
      subst c11
      have H1 : (a_m.l0 k2 false (Go.bits .or .u32 x4_2 (rd l0_0 x20_2)) l0_0 (l0_0.length : Int) (wrap64 (x20_2 + 1))) = some r:=by rw [if_neg (show ¬ (false = true) by decide)] at H;exact H
      clear H
      have H:=H1
      clear H1
      have H':=a_a.mk H
      clear H
      have p108 : 0 ≤ (x20_2 : Int):=of_decide_eq_true (by first|(with_reducible assumption)|assumption)
      have q108 : x20_2 < (l0_0.length : Int):=of_decide_eq_true (by first|(with_reducible assumption)|assumption)
      obtain ⟨ad108,e108,b_B⟩:=Kd.b_R b_X.out x20_2 p108 q108
      cases e108
      replace b_B:=(HB.out.cell (World.block_lt_of_cell? w _ b_B)).trans b_B
      replace p108:=eq_true p108
      replace q108:=eq_true q108
      go_wp2
      go_roundg k2
      case measure => have:=HJ1.out;have:=HK2.out;omega
      case rel => exact ⟨(false),(Go.bits .or .u32 x4_2 (rd l0_0 x20_2)),(wrap64 (x20_2 + 1)),(by first|rfl|(simp;done)|(simp [*];done)),(by first|rfl|(simp;done)|(simp [*];done)),(by first|rfl|(simp;done)|(simp [*];done)),H',⟨by have:=HJ1.out;have:=HK2.out;omega⟩,⟨by (with_reducible repeat (first|refine a_p ?_ _|refine a_n ?_|refine a_q ?_ _));exact c_D.out⟩,⟨by repeat (first|(with_reducible first|exact HB.out|apply a_e|apply a_b|apply a_g|refine a_c ?_ d_s.out)|exact HB.out)⟩⟩
     subst c11
     have H1 : (if (rd l0_0 x20_2) = 0 then (a_m.l0 k2 false (Go.bits .or .u32 x4_2 (rd l0_0 x20_2)) l0_0 (l0_0.length : Int) (wrap64 (x20_2 + 1))) else ((a_F.f (rd l0_0 x20_2)).bind fun t109 => (if t109 = 0 then (a_m.l0 k2 ((Go.bits .and .u32 (rd l0_0 x20_2) x4_2) == 0) (Go.bits .or .u32 x4_2 (rd l0_0 x20_2)) l0_0 (l0_0.length : Int) (wrap64 (x20_2 + 1))) else (a_m.l0 k2 false (Go.bits .or .u32 x4_2 (rd l0_0 x20_2)) l0_0 (l0_0.length : Int) (wrap64 (x20_2 + 1)))))) = some r:=by rw [if_pos rfl] at H;exact H
     clear H
     have H:=H1
     clear H1
     by_cases c12 : (rd l0_0 x20_2) = 0
     ·rw [if_pos c12] at H
      have c12b0 : ((rd l0_0 x20_2) == 0) = true:=beq_iff_eq.mpr c12
      have c12b1 : ((rd l0_0 x20_2) != 0) = false:=bne_eq_false_iff_eq.mpr c12
      clear c12
      have H':=a_a.mk H
      clear H
      have p108 : 0 ≤ (x20_2 : Int):=of_decide_eq_true (by first|(with_reducible assumption)|assumption)
      have q108 : x20_2 < (l0_0.length : Int):=of_decide_eq_true (by first|(with_reducible assumption)|assumption)
      obtain ⟨ad108,e108,b_B⟩:=Kd.b_R b_X.out x20_2 p108 q108
      cases e108
      replace b_B:=(HB.out.cell (World.block_lt_of_cell? w _ b_B)).trans b_B
      replace p108:=eq_true p108
      replace q108:=eq_true q108
      go_wp2
      go_roundg k2
      case measure => have:=HJ1.out;have:=HK2.out;omega
      case rel => exact ⟨(false),(Go.bits .or .u32 x4_2 (rd l0_0 x20_2)),(wrap64 (x20_2 + 1)),(by first|rfl|(simp;done)|(simp [*];done)),(by first|rfl|(simp;done)|(simp [*];done)),(by first|rfl|(simp;done)|(simp [*];done)),H',⟨by have:=HJ1.out;have:=HK2.out;omega⟩,⟨by (with_reducible repeat (first|refine a_p ?_ _|refine a_n ?_|refine a_q ?_ _));exact c_D.out⟩,⟨by repeat (first|(with_reducible first|exact HB.out|apply a_e|apply a_b|apply a_g|refine a_c ?_ d_s.out)|exact HB.out)⟩⟩
     rw [if_neg c12] at H
     have c12b0 : ((rd l0_0 x20_2) == 0) = false:=beq_eq_false_iff_ne.mpr c12
     have c12b1 : ((rd l0_0 x20_2) != 0) = true:=bne_iff_ne.mpr c12
     replace H:=Option.bind_eq_some_iff.mp H
     obtain ⟨t109,A130,H⟩:=H
     replace H : (if t109 = 0 then (a_m.l0 k2 ((Go.bits .and .u32 (rd l0_0 x20_2) x4_2) == 0) (Go.bits .or .u32 x4_2 (rd l0_0 x20_2)) l0_0 (l0_0.length : Int) (wrap64 (x20_2 + 1))) else (a_m.l0 k2 false (Go.bits .or .u32 x4_2 (rd l0_0 x20_2)) l0_0 (l0_0.length : Int) (wrap64 (x20_2 + 1)))) = some r:=H
     have A13:=a_a.mk A130
     clear A130
     by_cases c14 : t109 = 0
     ·rw [if_pos c14] at H
      have c14b0 : (t109 == 0) = true:=beq_iff_eq.mpr c14
      have c14b1 : (t109 != 0) = false:=bne_eq_false_iff_eq.mpr c14
      clear c14
      have H':=a_a.mk H
      clear H
      have p108 : 0 ≤ (x20_2 : Int):=of_decide_eq_true (by first|(with_reducible assumption)|assumption)
      have q108 : x20_2 < (l0_0.length : Int):=of_decide_eq_true (by first|(with_reducible assumption)|assumption)
      obtain ⟨ad108,e108,b_B⟩:=Kd.b_R b_X.out x20_2 p108 q108
      cases e108
      replace b_B:=(HB.out.cell (World.block_lt_of_cell? w _ b_B)).trans b_B
      replace p108:=eq_true p108
      replace q108:=eq_true q108
      go_wp2_with (first|(go_at_call 38;(with_reducible refine (a_F.calls (rd l0_0 x20_2) t109 _ A13.out).mono ?_);rintro e w' ⟨rfl,⟨nd,rfl⟩⟩))
      go_roundg k2
      case measure => have:=HJ1.out;have:=HK2.out;omega
      case rel => exact ⟨(((Go.bits .and .u32 (rd l0_0 x20_2) x4_2) == 0)),(Go.bits .or .u32 x4_2 (rd l0_0 x20_2)),(wrap64 (x20_2 + 1)),(by first|rfl|(simp;done)|(simp [*];done)),(by first|rfl|(simp;done)|(simp [*];done)),(by first|rfl|(simp;done)|(simp [*];done)),H',⟨by have:=HJ1.out;have:=HK2.out;omega⟩,⟨by (with_reducible repeat (first|refine a_p ?_ _|refine a_n ?_|refine a_q ?_ _));exact c_D.out⟩,⟨by repeat (first|(with_reducible first|exact HB.out|apply a_e|apply a_b|apply a_g|refine a_c ?_ d_s.out)|exact HB.out)⟩⟩
     rw [if_neg c14] at H
     have c14b0 : (t109 == 0) = false:=beq_eq_false_iff_ne.mpr c14
     have c14b1 : (t109 != 0) = true:=bne_iff_ne.mpr c14
     have H':=a_a.mk H
     clear H
     have p108 : 0 ≤ (x20_2 : Int):=of_decide_eq_true (by first|(with_reducible assumption)|assumption)
     have q108 : x20_2 < (l0_0.length : Int):=of_decide_eq_true (by first|(with_reducible assumption)|assumption)
     obtain ⟨ad108,e108,b_B⟩:=Kd.b_R b_X.out x20_2 p108 q108
     cases e108
     replace b_B:=(HB.out.cell (World.block_lt_of_cell? w _ b_B)).trans b_B
     replace p108:=eq_true p108
     replace q108:=eq_true q108
     go_wp2_with (first|(go_at_call 38;(with_reducible refine (a_F.calls (rd l0_0 x20_2) t109 _ A13.out).mono ?_);rintro e w' ⟨rfl,⟨nd,rfl⟩⟩))
     go_roundg k2
     case measure => have:=HJ1.out;have:=HK2.out;omega
     case rel => exact ⟨(false),(Go.bits .or .u32 x4_2 (rd l0_0 x20_2)),(wrap64 (x20_2 + 1)),(by first|rfl|(simp;done)|(simp [*];done)),(by first|rfl|(simp;done)|(simp [*];done)),(by first|rfl|(simp;done)|(simp [*];done)),H',⟨by have:=HJ1.out;have:=HK2.out;omega⟩,⟨by (with_reducible repeat (first|refine a_p ?_ _|refine a_n ?_|refine a_q ?_ _));exact c_D.out⟩,⟨by repeat (first|(with_reducible first|exact HB.out|apply a_e|apply a_b|apply a_g|refine a_c ?_ d_s.out)|exact HB.out)⟩⟩
end Go.Proofs.Ytkhbffjfclepfaa.Q
end
section
namespace Go.Proofs.Ytkhbffjfclepfaa.Q
open Go.RowKit Go.Proofs.YtkhbffjfclepfaaW.PrintWords Go.Proofs.YtkhbffjfclepfaaW.PrintLast Go.Proofs.YtkhbffjfclepfaaW.PrintMore
set_option linter.unusedVariables false
set_option linter.unusedSimpArgs false
def a_r.l0 : Nat → List Int → List Int → Int → Int → Option (List Int × Int)
 | 0,_,_,_,_ => none
 | k + 1,x5,x19,x20,x21 => if x21 < x20 then (if 0 ≤ x21 then (if x21 < (x19.length : Int) then (if x5.length < 140737488355328 then (a_r.l0 k (x5 ++ [(rd x19 x21) % 256]) x19 x20 (wrap64 (x21 + 1))) else (none)) else (none)) else (none)) else (some (x5,0))
def a_r.f (k : Nat) (l0_0 : List Int) : Option (List Int × Int):=(a_m.f k l0_0).bind fun t353 => (if t353 = 0 then (a_r.l0 k (([((l0_0.length : Int)) % 256] : List Int)) l0_0 (l0_0.length : Int) 0) else (some (([] : List Int),t353)))
theorem a_r.b_0 : ∀ k,(∀ y0 y1 y2 y3,LeO (a_r.l0 k y0 y1 y2 y3) (a_r.l0 (k + 1) y0 y1 y2 y3))
 | 0 => fun _ _ _ _ r h => by simp [a_r.l0] at h
 | k + 1 => by
  have ih0:=a_r.b_0 k
  ·intro y0 y1 y2 y3
   unfold a_r.l0
   repeat' first
   | (with_reducible exact ih0 _ _ _ _)
   | (with_reducible exact a_m.mono _ _)
   | (with_reducible exact LeO.refl _)
   | (with_reducible exact LeO.none _)
   | (with_reducible refine LeO.ite ?_ ?_)
   | (with_reducible refine LeO.bind ?_ (fun _ => ?_))
   | exact ih0 _ _ _ _
   | exact a_m.mono _ _
   | exact LeO.none _
   | refine LeO.ite ?_ ?_
   | refine LeO.bind ?_ (fun _ => ?_)
theorem a_r.mono : ∀ a0 k,LeO (a_r.f k a0) (a_r.f (k + 1) a0):=by
 intro a0 k
 have ih0:=a_r.b_0 k
 unfold a_r.f
 repeat' first
  | (with_reducible exact ih0 _ _ _ _)
  | (with_reducible exact a_m.mono _ _)
  | (with_reducible exact LeO.refl _)
  | (with_reducible exact LeO.none _)
  | (with_reducible refine LeO.ite ?_ ?_)
  | (with_reducible refine LeO.bind ?_ (fun _ => ?_))
  | exact ih0 _ _ _ _
  | exact a_m.mono _ _
  | exact LeO.none _
  | refine LeO.ite ?_ ?_
  | refine LeO.bind ?_ (fun _ => ?_)
set_option maxHeartbeats 8000000 in
set_option maxRecDepth 100000 in
theorem a_r.calls (k : Nat) (A0_0 : Option Addr) (c0_0 : Nat) (l0_0 : List Int) (r1 : List Int) (r2 : Int) (w : World) (hr0_0 : Kd.C (Kd.int .u32) w A0_0 l0_0.length l0_0) (hc0_0 : l0_0.length ≤ c0_0) (h : a_r.f k l0_0 = some (r1,r2)) :
 Calls Try.prog 24 #[.agg #[.slice A0_0 l0_0.length c0_0]] w fun e w' => ∃ v0_ : Value,e = .returned (.tuple #[v0_,.int .i64 r2]) ∧ Kd.R (Kd.int .u8) 5 w' w.heap.size (fun _ => True) v0_ r1 ∧ Below w.heap.size w w':=by
 have hu26:=Try.underlying26
 have b_X:=a_a.mk hr0_0
 have c_o:=a_a.mk hc0_0
 clear hr0_0 hc0_0
 have HB:=a_a.mk (Below.refl w.heap.size w)
 have H : ((a_m.f k l0_0).bind fun t353 => (if t353 = 0 then (a_r.l0 k (([((l0_0.length : Int)) % 256] : List Int)) l0_0 (l0_0.length : Int) 0) else (some (([] : List Int),t353)))) = some (r1,r2):=h
 clear h
 replace H:=Option.bind_eq_some_iff.mp H
 obtain ⟨t353,A20,H⟩:=H
 replace H : (if t353 = 0 then (a_r.l0 k (([((l0_0.length : Int)) % 256] : List Int)) l0_0 (l0_0.length : Int) 0) else (some (([] : List Int),t353))) = some (r1,r2):=H
 have A2:=a_a.mk A20
 clear A20
 by_cases c3 : t353 = 0
 rotate_left
 ·rw [if_neg c3] at H
  have c3b0 : (t353 == 0) = false:=beq_eq_false_iff_ne.mpr c3
  have c3b1 : (t353 != 0) = true:=bne_iff_ne.mpr c3
  simp only [Option.some.injEq,Prod.mk.injEq] at H
  obtain ⟨rfl,rfl⟩:=H
  go_enter Try.func24,Try.ntmps24
  go_wp2_with (first|((with_reducible refine a_t (N:=1) rfl ?_);refine a_s ?hg (N:=1) ?hd (cs:=#[.slice A0_0 l0_0.length c0_0]) (t:=26) ?hr ?_;(case hd => rfl);(case hg => rfl);(case hr => first|(go_simp;done)|(go_simp;rfl));intro d_f hg w16 hbox hb;have b_3:=a_a.mk (hbox);have h_q:=a_a.mk ((by rw [hg];exact (a_l (lup_ HB.out)) : w.heap.size ≤ d_f));have d_g:=a_a.mk ((by rw [hg];exact (a_l (lup_ HB.out)) : w.heap.size ≤ d_f));replace HB:=a_a.mk (a_h (lup_ HB.out) hb);clear hb hbox hg;have g_q : w16.cell? ⟨d_f,0,none⟩ = some (.slice A0_0 l0_0.length c0_0):=(a_k b_3.out 0).trans rfl;have g_r:=a_i b_3.out 0)|((with_reducible refine a_y (f:=17) rfl ?_);refine a_9 (some 9) rfl rfl Try.func17 (by kernel_rfl) rfl #[.agg #[.slice A0_0 l0_0.length c0_0]] rfl (by (try simp only [List.map_toArray,List.map_cons,List.map_nil]);first|done|rfl|(simp only [List.length_drop,List.length_take];rfl)) ?_;(with_reducible refine (a_m.calls k _ _ l0_0 t353 _ ?side1 ?side2 A2.out).mono ?_);(case side1 => repeat (first|exact (Kd.a_L b_X.out HB.out)|(with_reducible refine Kd.a_R ?_ _)|(with_reducible refine Kd.a_V ?_ _)|(with_reducible refine Kd.a_3 ?_)));(case side2 => exact c_o.out);rintro e w18 ⟨rfl,hb⟩;refine ⟨_,rfl,?_⟩;replace b_3:=a_a.mk (a_d (bup_ b_3.out) hb);replace HB:=a_a.mk (a_h (by repeat (first|(with_reducible first|exact HB.out|apply a_e|apply a_b|apply a_g|refine a_c ?_ d_g.out)|exact HB.out)) hb);(try clear hb);(try clear hb2);(try clear hk);(try clear hi)))
  go_ret2
  exact ⟨_,by first|rfl|(simp [a_w,a_v] <;> rfl)|(simp [*, a_w,a_v] <;> rfl),by first|exact Kd.c_C _ _ _ _ _|exact Kd.e_p _ _ _ _ _|exact Kd.e_m _ _ _ _ _|exact Kd.e_j _ _ _ _ _|exact Kd.e_q _ _ _ _ _,by repeat (first|(with_reducible first|exact HB.out|apply a_e|apply a_b|apply a_g|refine a_c ?_ d_g.out)|exact HB.out)⟩
 rw [if_pos c3] at H
 have c3b0 : (t353 == 0) = true:=beq_iff_eq.mpr c3
 have c3b1 : (t353 != 0) = false:=bne_eq_false_iff_eq.mpr c3
 clear c3
 obtain ⟨y354,hy354⟩ : ∃ y_ : List Int,y_ = (([((l0_0.length : Int)) % 256] : List Int)):=⟨_,rfl⟩
 replace H : (a_r.l0 k y354 l0_0 (l0_0.length : Int) 0) = some (r1,r2):=by first|(rw [hy354];with_reducible exact H)|(have H2_:=(Option.bind_some _ _).symm.trans H;rw [hy354];with_reducible exact H2_)|(have H2_:=(Option.bind_some _ _).symm.trans H;with_reducible exact H2_)|with_reducible exact H|(rw [hy354];exact H)|exact H
 have Ny354:=a_a.mk hy354
 clear hy354
 have H':=a_a.mk H
 clear H
 go_enter Try.func24,Try.ntmps24
 go_wp2_with (first|((with_reducible refine a_t (N:=1) rfl ?_);refine a_s ?hg (N:=1) ?hd (cs:=#[.slice A0_0 l0_0.length c0_0]) (t:=26) ?hr ?_;(case hd => rfl);(case hg => rfl);(case hr => first|(go_simp;done)|(go_simp;rfl));intro d_f hg w4 hbox hb;have b_3:=a_a.mk (hbox);have h_q:=a_a.mk ((by rw [hg];exact (a_l (lup_ HB.out)) : w.heap.size ≤ d_f));have d_g:=a_a.mk ((by rw [hg];exact (a_l (lup_ HB.out)) : w.heap.size ≤ d_f));replace HB:=a_a.mk (a_h (lup_ HB.out) hb);clear hb hbox hg;have e_M : w4.cell? ⟨d_f,0,none⟩ = some (.slice A0_0 l0_0.length c0_0):=(a_k b_3.out 0).trans rfl;have e_N:=a_i b_3.out 0)|((with_reducible refine a_y (f:=17) rfl ?_);refine a_9 (some 9) rfl rfl Try.func17 (by kernel_rfl) rfl #[.agg #[.slice A0_0 l0_0.length c0_0]] rfl (by (try simp only [List.map_toArray,List.map_cons,List.map_nil]);first|done|rfl|(simp only [List.length_drop,List.length_take];rfl)) ?_;(with_reducible refine (a_m.calls k _ _ l0_0 t353 _ ?side1 ?side2 A2.out).mono ?_);(case side1 => repeat (first|exact (Kd.a_L b_X.out HB.out)|(with_reducible refine Kd.a_R ?_ _)|(with_reducible refine Kd.a_V ?_ _)|(with_reducible refine Kd.a_3 ?_)));(case side2 => exact c_o.out);rintro e w6 ⟨rfl,hb⟩;refine ⟨_,rfl,?_⟩;replace b_3:=a_a.mk (a_d (bup_ b_3.out) hb);replace HB:=a_a.mk (a_h (by repeat (first|(with_reducible first|exact HB.out|apply a_e|apply a_b|apply a_g|refine a_c ?_ d_g.out)|exact HB.out)) hb);(try clear hb);(try clear hb2);(try clear hk);(try clear hi);have d_x : w6.cell? ⟨d_f,0,none⟩ = some (.slice A0_0 l0_0.length c0_0):=(a_k b_3.out 0).trans rfl;have d_y:=a_i b_3.out 0)|((with_reducible refine a_t (N:=17) rfl ?_);refine Kd.d_q (Kd.int .u8) _ 5 ?hg (N:=17) ?hd (xs:=([((l0_0.length : Int)) % 256] : List Int)) (inner:=[.int .u8 (((l0_0.length : Int)) % 256)]) (ok:=fun _ => True) (okp:=fun _ => True) ?hr ?hp (fun _ hk => hk) trivial (Below.refl _ _) (Nat.le_refl _) (by simp) ?_;(case hd => rfl);(case hg => rfl);(case hr => first|(go_simp;done)|(go_simp;rfl));(case hp => exact (Reps.one (show Kd.M (Kd.int .u8) _ _ _ (((l0_0.length : Int)) % 256) [.int .u8 (((l0_0.length : Int)) % 256)] from rfl) (Reps.none _ _)));intro v355 w8 ho9 hb hg_ hnew_;clear hg_ hnew_;(first|rw [← Ny354.out] at ho9|(simp only [Int.reduceToNat] at ho9;rw [← Ny354.out] at ho9));have h_r:=a_a.mk (Kd.a_Z ho9 (a_l (by repeat (first|(with_reducible first|exact HB.out|apply a_e|apply a_b|apply a_g|refine a_c ?_ d_g.out)|exact HB.out))));replace b_3:=a_a.mk (a_d (bup_ b_3.out) hb);replace HB:=a_a.mk (a_h (by repeat (first|(with_reducible first|exact HB.out|apply a_e|apply a_b|apply a_g|refine a_c ?_ d_g.out)|exact HB.out)) hb);clear hb ho9;have c_X : w8.cell? ⟨d_f,0,none⟩ = some (.slice A0_0 l0_0.length c0_0):=(a_k b_3.out 0).trans rfl;have c_Y:=a_i b_3.out 0))
 go_loopg [5,21] k (fun kq v5 v21 w' => ∃ (x5_1 : List Int) (x21_1 : Int),v21 = .int .i64 x21_1 ∧ a_a (a_r.l0 kq x5_1 l0_0 (l0_0.length : Int) x21_1 = some (r1,r2)) ∧ a_a (kq ≤ k) ∧ a_a (Kd.R (Kd.int .u8) 5 w' w.heap.size (fun _ => True) v5 x5_1) ∧ a_a (w'.heap[d_f]? = some (.cells #[(.slice A0_0 l0_0.length c0_0)] 26 (0,0))) ∧ a_a (Below w.heap.size w w'))
 case atStart => exact ⟨(y354),(0),(by first|rfl|(simp;done)|(simp [*];done)),H',⟨Nat.le_refl _⟩,⟨by (with_reducible repeat (first|apply Kd.a_E|apply Kd.a_D|apply Kd.a_H));exact h_r.out⟩,⟨by (with_reducible repeat (first|refine a_p ?_ _|refine a_n ?_|refine a_q ?_ _));exact b_3.out⟩,⟨by repeat (first|(with_reducible first|exact HB.out|apply a_e|apply a_b|apply a_g|refine a_c ?_ d_g.out)|exact HB.out)⟩⟩
 case round =>
  clear H'
  try clear c1
  try clear c2
  try clear p2
  try clear c3
  try clear c3b0
  try clear c3b1
  try clear c_X
  try clear e_M
  try clear d_x
  try clear c_Y
  try clear e_N
  try clear d_y
  obtain ⟨x5_1,x21_1,rfl,HA,HK1,HO_5,b_3,HB⟩:=hrel
  cases gk with
  | zero => exact absurd HA.out (by simp [a_r.l0])
  | succ k1 =>
   have H:=HA.out
   clear HA
   simp only [a_r.l0] at H
   by_cases c11 : x21_1 < (l0_0.length : Int)
   rotate_left
   ·rw [if_neg c11] at H
    have c11b0 : decide (x21_1 < (l0_0.length : Int)) = false:=decide_eq_false c11
    clear c11
    simp only [Option.some.injEq,Prod.mk.injEq] at H
    obtain ⟨rfl,rfl⟩:=H
    go_wp2
    go_ret2
    exact ⟨_,by first|rfl|(simp [a_w,a_v] <;> rfl)|(simp [*, a_w,a_v] <;> rfl),by (with_reducible repeat (first|apply Kd.a_E|apply Kd.a_D|apply Kd.a_H));exact HO_5.out,by repeat (first|(with_reducible first|exact HB.out|apply a_e|apply a_b|apply a_g|refine a_c ?_ d_g.out)|exact HB.out)⟩
   rw [if_pos c11] at H
   have c11b0 : decide (x21_1 < (l0_0.length : Int)) = true:=decide_eq_true c11
   clear c11
   by_cases c12 : 0 ≤ x21_1
   rotate_left
   ·rw [if_neg c12] at H
    exact absurd H (by simp)
   rw [if_pos c12] at H
   have c12b0 : decide (0 ≤ x21_1) = true:=decide_eq_true c12
   clear c12
   by_cases c13 : x21_1 < (l0_0.length : Int)
   rotate_left
   ·rw [if_neg c13] at H
    exact absurd H (by simp)
   rw [if_pos c13] at H
   have c13b0 : decide (x21_1 < (l0_0.length : Int)) = true:=decide_eq_true c13
   clear c13
   by_cases c14 : x5_1.length < 140737488355328
   rotate_left
   ·rw [if_neg c14] at H
    exact absurd H (by simp)
   rw [if_pos c14] at H
   have LMc14:=a_a.mk c14
   clear c14
   obtain ⟨y358,hy358⟩ : ∃ y_ : List Int,y_ = (x5_1 ++ [(rd l0_0 x21_1) % 256]):=⟨_,rfl⟩
   replace H : (a_r.l0 k1 y358 l0_0 (l0_0.length : Int) (wrap64 (x21_1 + 1))) = some (r1,r2):=by first|(rw [hy358];with_reducible exact H)|(have H2_:=(Option.bind_some _ _).symm.trans H;rw [hy358];with_reducible exact H2_)|(have H2_:=(Option.bind_some _ _).symm.trans H;with_reducible exact H2_)|with_reducible exact H|(rw [hy358];exact H)|exact H
   have Ny358:=a_a.mk hy358
   clear hy358
   have H':=a_a.mk H
   clear H
   have p357 : 0 ≤ (x21_1 : Int):=of_decide_eq_true (by first|(with_reducible assumption)|assumption)
   have q357 : x21_1 < (l0_0.length : Int):=of_decide_eq_true (by first|(with_reducible assumption)|assumption)
   obtain ⟨ad357,e357,e_w⟩:=Kd.b_R b_X.out x21_1 p357 q357
   cases e357
   replace e_w:=(HB.out.cell (World.block_lt_of_cell? w _ e_w)).trans e_w
   replace p357:=eq_true p357
   replace q357:=eq_true q357
   go_wp2_with (first|((with_reducible refine b_1 (b:=.append) (xs:=#[.tmp 25,.tmp 28]) rfl ?_);at_builtin;refine Kd.e_H (Kd.int .u8) (w0:=w) w.heap.size rfl (.tmp 25) (.tmp 28) 51 5 (.int .u8 0) 1 rfl Try.underlying51 info5 rfl (by decide) (by omega) u5 x5_1 ((rd l0_0 x21_1) % 256) [.int .u8 ((rd l0_0 x21_1) % 256)] (fun _ => True) (fun _ => False) rfl rfl ?aP (fun _ hk => hk.elim) ?aF ?aO ?aB ?aS ?aL ?_;(case aP => exact rfl);(case aB => exact (by repeat (first|(with_reducible first|exact HB.out|apply a_e|apply a_b|apply a_g|refine a_c ?_ d_g.out)|exact HB.out)));(case aF => exact (fun _ _ => trivial));(case aO => exact (rup_ HO_5.out));(case aS => exact (a_l (by repeat (first|(with_reducible first|exact HB.out|apply a_e|apply a_b|apply a_g|refine a_c ?_ d_g.out)|exact HB.out))));(case aL => have:=LMc14.out;omega);intro v359 w15 ho hb hg hat;rw [← Ny358.out] at ho;have h_s:=a_a.mk (ho);replace b_3:=a_a.mk (b_z (g:=d_f) (o:=.cells #[.slice (some ad357) l0_0.length c0_0] 26 (0,0)) (bup_ b_3.out) hg (Kd.R_ne HO_5.out b_3.out (by decide)));replace HB:=a_a.mk (hb);clear HO_5 ho hb hg hat))
   go_roundg k1
   case measure => have:=HK1.out;omega
   case rel => exact ⟨(y358),(wrap64 (x21_1 + 1)),(by first|rfl|(simp;done)|(simp [*];done)),H',⟨by have:=HK1.out;omega⟩,⟨by (with_reducible repeat (first|apply Kd.a_E|apply Kd.a_D|apply Kd.a_H));exact h_s.out⟩,⟨by (with_reducible repeat (first|refine a_p ?_ _|refine a_n ?_|refine a_q ?_ _));exact b_3.out⟩,⟨by repeat (first|(with_reducible first|exact HB.out|apply a_e|apply a_b|apply a_g|refine a_c ?_ d_g.out)|exact HB.out)⟩⟩
end Go.Proofs.Ytkhbffjfclepfaa.Q
end
section
namespace Go.Proofs.Ytkhbffjfclepfaa.Q
open Go.RowKit Go.Proofs.YtkhbffjfclepfaaW.PrintWords Go.Proofs.YtkhbffjfclepfaaW.PrintLast Go.Proofs.YtkhbffjfclepfaaW.PrintMore
set_option linter.unusedVariables false
set_option linter.unusedSimpArgs false
def bytes_Equal.f (l0 : List Int) (l1 : List Int) : Option (Bool):=some ((strOfNums l0).toList == (strOfNums l1).toList)
set_option maxHeartbeats 8000000 in
set_option maxRecDepth 100000 in
theorem bytes_Equal.calls (A0 : Option Addr) (c0 : Nat) (l0 : List Int) (A1 : Option Addr) (c1 : Nat) (l1 : List Int) (r : Bool) (w : World) (hr0 : Kd.C (Kd.int .u8) w A0 l0.length l0) (hc0 : l0.length ≤ c0) (hr1 : Kd.C (Kd.int .u8) w A1 l1.length l1) (hc1 : l1.length ≤ c1) (h : bytes_Equal.f l0 l1 = some r) :
 Calls Try.prog 25 #[.slice A0 l0.length c0,.slice A1 l1.length c1] w fun e w' => e = .returned (.bool r) ∧ a_N w w':=by
 have HR0:=a_a.mk hr0
 have HC0:=a_a.mk hc0
 clear hr0 hc0
 have HR1:=a_a.mk hr1
 have HC1:=a_a.mk hc1
 clear hr1 hc1
 have H : (some ((strOfNums l0).toList == (strOfNums l1).toList)) = some r:=h
 clear h
 obtain rfl:=Option.some.inj H
 have hcv3:=Kd.e_K (P:=Try.prog) (A:=A0) (c:=c0) Try.underlying51 Try.underlying5 Try.underlying9 HR0.out
 have hcv4:=Kd.e_K (P:=Try.prog) (A:=A1) (c:=c1) Try.underlying51 Try.underlying5 Try.underlying9 HR1.out
 go_enter Try.func25,Try.ntmps25
 go_wp2
 go_ret
 exact ⟨by first|rfl|(simp;done)|(simp [*];done),by repeat (first|exact a_N.refl _|apply a_N.step)⟩
end Go.Proofs.Ytkhbffjfclepfaa.Q
end
section
namespace Go.Proofs.Ytkhbffjfclepfaa.Q
open Go.RowKit Go.Proofs.YtkhbffjfclepfaaW.PrintWords Go.Proofs.YtkhbffjfclepfaaW.PrintLast Go.Proofs.YtkhbffjfclepfaaW.PrintMore
set_option linter.unusedVariables false
set_option linter.unusedSimpArgs false
mutual
def a_o.j0 : Nat → List Int → Bool → Option (List Int × Int)
 | 0,_,_ => none
 | k + 1,x0,x20 => if x20 = true then (some (([] : List Int),7)) else (if 1 ≤ (x0.length : Int) then (a_o.l0 k x0 (x0.drop 1) ((x0.drop 1).length : Int) 0 ([] : List Int)) else (none))
def a_o.l0 : Nat → List Int → List Int → Int → Int → List Int → Option (List Int × Int)
 | 0,_,_,_,_,_ => none
 | k + 1,x0,x23,x24,x25,x372000 => if x25 < x24 then (if 0 ≤ x25 then (if x25 < (x23.length : Int) then (if x372000.length < 35184372088832 then (a_o.l0 k x0 x23 x24 (wrap64 (x25 + 1)) (x372000 ++ [(rd x23 x25) % 4294967296])) else (none)) else (none)) else (none)) else ((a_r.f k x372000).bind fun bt377 => (if bt377.2 = 0 then ((bytes_Equal.f bt377.1 x0).bind fun t381 => (if t381 = true then (some (x372000,0)) else (some (([] : List Int),180)))) else (some (([] : List Int),180))))
end
def a_o.f (k : Nat) (l0 : List Int) : Option (List Int × Int):=if (l0.length : Int) = 0 then (a_o.j0 k l0 true) else (if 0 < (l0.length : Int) then (a_o.j0 k l0 (decide ((l0.length : Int) ≤ (wrap64 (rd l0 0))))) else (none))
theorem a_o.b_0 : ∀ k,(∀ y0 y1,LeO (a_o.j0 k y0 y1) (a_o.j0 (k + 1) y0 y1)) ∧ (∀ y0 y1 y2 y3 y4,LeO (a_o.l0 k y0 y1 y2 y3 y4) (a_o.l0 (k + 1) y0 y1 y2 y3 y4))
 | 0 => ⟨fun _ _ r h => by simp [a_o.j0] at h,fun _ _ _ _ _ r h => by simp [a_o.l0] at h⟩
 | k + 1 => by
  obtain ⟨ih0,ih1⟩:=a_o.b_0 k
  refine ⟨?_,?_⟩
  ·intro y0 y1
   unfold a_o.j0
   repeat' first
   | (with_reducible exact ih0 _ _)
   | (with_reducible exact ih1 _ _ _ _ _)
   | (with_reducible exact a_r.mono _ _)
   | (with_reducible exact LeO.refl _)
   | (with_reducible exact LeO.none _)
   | (with_reducible refine LeO.ite ?_ ?_)
   | (with_reducible refine LeO.bind ?_ (fun _ => ?_))
   | exact ih0 _ _
   | exact ih1 _ _ _ _ _
   | exact a_r.mono _ _
   | exact LeO.none _
   | refine LeO.ite ?_ ?_
   | refine LeO.bind ?_ (fun _ => ?_)
  ·intro y0 y1 y2 y3 y4
   unfold a_o.l0
   repeat' first
   | (with_reducible exact ih0 _ _)
   | (with_reducible exact ih1 _ _ _ _ _)
   | (with_reducible exact a_r.mono _ _)
   | (with_reducible exact LeO.refl _)
   | (with_reducible exact LeO.none _)
   | (with_reducible refine LeO.ite ?_ ?_)
   | (with_reducible refine LeO.bind ?_ (fun _ => ?_))
   | exact ih0 _ _
   | exact ih1 _ _ _ _ _
   | exact a_r.mono _ _
   | exact LeO.none _
   | refine LeO.ite ?_ ?_
   | refine LeO.bind ?_ (fun _ => ?_)
theorem a_o.mono : ∀ a0 k,LeO (a_o.f k a0) (a_o.f (k + 1) a0):=by
 intro a0 k
 obtain ⟨ih0,ih1⟩:=a_o.b_0 k
 unfold a_o.f
 repeat' first
  | (with_reducible exact ih0 _ _)
  | (with_reducible exact ih1 _ _ _ _ _)
  | (with_reducible exact a_r.mono _ _)
  | (with_reducible exact LeO.refl _)
  | (with_reducible exact LeO.none _)
  | (with_reducible refine LeO.ite ?_ ?_)
  | (with_reducible refine LeO.bind ?_ (fun _ => ?_))
  | exact ih0 _ _
  | exact ih1 _ _ _ _ _
  | exact a_r.mono _ _
  | exact LeO.none _
  | refine LeO.ite ?_ ?_
  | refine LeO.bind ?_ (fun _ => ?_)
set_option maxHeartbeats 8000000 in
set_option maxRecDepth 100000 in
theorem a_o.calls (k : Nat) (A0 : Option Addr) (c0 : Nat) (l0 : List Int) (r1 : List Int) (r2 : Int) (w : World) (hr0 : Kd.C (Kd.int .u8) w A0 l0.length l0) (hc0 : l0.length ≤ c0) (h : a_o.f k l0 = some (r1,r2)) :
 Calls Try.prog 27 #[.slice A0 l0.length c0] w fun e w' => ∃ v0_ : Value,e = .returned (.tuple #[.agg #[v0_],.int .i64 r2]) ∧ Kd.R (Kd.int .u32) 31 w' w.heap.size (fun _ => True) v0_ r1 ∧ Below w.heap.size w w':=by
 have hu26:=Try.underlying26
 have HR0:=a_a.mk hr0
 have HC0:=a_a.mk hc0
 clear hr0 hc0
 have HB:=a_a.mk (Below.refl w.heap.size w)
 have H : (if (l0.length : Int) = 0 then (a_o.j0 k l0 true) else (if 0 < (l0.length : Int) then (a_o.j0 k l0 (decide ((l0.length : Int) ≤ (wrap64 (rd l0 0))))) else (none))) = some (r1,r2):=h
 clear h
 have HC2:=a_a.mk H
 clear H
 go_enter Try.func27,Try.ntmps27
 go_upto_region 1 with (first|((with_reducible refine a_t (N:=2) rfl ?_);(try (refine b_D (by rfl) ?_;dsimp only));refine a_s ?hg (N:=2) ?hd (cs:=#[.slice none 0 0]) (t:=26) ?hr ?_;(case hd => rfl);(case hg => rfl);(case hr => first|(go_simp;done)|(go_simp;rfl));intro c_j hg w3 hbox hb;have b_s:=a_a.mk (hbox);have i_y:=a_a.mk ((by rw [hg];exact (a_l (lup_ HB.out)) : w.heap.size ≤ c_j));have b_4:=a_a.mk ((by rw [hg];exact (a_l (lup_ HB.out)) : w.heap.size ≤ c_j));replace HB:=a_a.mk (a_h (lup_ HB.out) hb);clear hb hbox hg))
 (try simp only [Act.put,List.setIfInBounds_toArray,List.set_cons_zero,List.set_cons_succ])
 go_cut [20] (fun v20 wc => ∃ (kq : Nat) (x20_1 : Bool),v20 = .bool x20_1 ∧ a_a (a_o.j0 kq l0 x20_1 = some (r1,r2)) ∧ a_a (kq ≤ k) ∧ a_a (wc.heap[c_j]? = some (.cells #[(.slice none 0 0)] 26 (0,0))) ∧ a_a (Below w.heap.size w wc))
 case first =>
  have H:=HC2.out
  clear HC2
  by_cases c4 : (l0.length : Int) = 0
  ·rw [if_pos c4] at H
   have c4b0 : ((l0.length : Int) == 0) = true:=beq_iff_eq.mpr c4
   have c4b1 : ((l0.length : Int) != 0) = false:=bne_eq_false_iff_eq.mpr c4
   clear c4
   (first|rw [c4b0]|(simp only [d_V,d_7];rw [c4b0])|skip)
   have H':=a_a.mk H
   clear H
   go_wp2
   go_meet
   case rel => exact ⟨_,(true),(by first|rfl|(simp;done)|(simp [*];done)),H',⟨by first|omega|exact Nat.le_refl _⟩,⟨by (with_reducible repeat (first|refine a_p ?_ _|refine a_n ?_|refine a_q ?_ _));exact b_s.out⟩,⟨by repeat (first|(with_reducible first|exact HB.out|apply a_e|apply a_b|apply a_g|refine a_c ?_ b_4.out)|exact HB.out)⟩⟩
  rw [if_neg c4] at H
  have c4b0 : ((l0.length : Int) == 0) = false:=beq_eq_false_iff_ne.mpr c4
  have c4b1 : ((l0.length : Int) != 0) = true:=bne_iff_ne.mpr c4
  have c4b2 : ¬ (l0 = []):=fun h_ => c4 (by rw [h_];rfl)
  (first|rw [c4b0]|(simp only [d_V,d_7];rw [c4b0])|skip)
  by_cases c5 : 0 < (l0.length : Int)
  rotate_left
  ·rw [if_neg c5] at H
   exact absurd H (by simp)
  rw [if_pos c5] at H
  have c5b0 : decide (0 < (l0.length : Int)) = true:=decide_eq_true c5
  have c5b1 : decide (0 < l0.length) = true:=decide_eq_true (by omega)
  clear c5
  have H':=a_a.mk H
  clear H
  have p370 : 0 ≤ (0 : Int):=(by omega)
  have q370 : 0 < (l0.length : Int):=of_decide_eq_true (by first|(with_reducible assumption)|assumption)
  obtain ⟨ad370,e370,c_E⟩:=Kd.b_R HR0.out 0 p370 q370
  cases e370
  have qi370 : (0 < l0.length) = True:=eq_true (by omega)
  (try rw [show ((0 : Int)).toNat = 0 from rfl] at c_E)
  (try rw [Addr.add_zero'] at c_E)
  replace c_E:=(HB.out.cell (World.block_lt_of_cell? w _ c_E)).trans c_E
  replace p370:=eq_true p370
  replace q370:=eq_true q370
  go_wp2
  go_meet
  case rel => exact ⟨_,(decide ((l0.length : Int) ≤ (wrap64 (rd l0 0)))),(by first|rfl|(simp;done)|(simp [*];done)),H',⟨by first|omega|exact Nat.le_refl _⟩,⟨by (with_reducible repeat (first|refine a_p ?_ _|refine a_n ?_|refine a_q ?_ _));exact b_s.out⟩,⟨by repeat (first|(with_reducible first|exact HB.out|apply a_e|apply a_b|apply a_g|refine a_c ?_ b_4.out)|exact HB.out)⟩⟩
 case rest =>
  clear HC2
  try clear c2
  try clear p2
  try clear p3
  try clear q3
  try clear hx3
  try clear qi3
  try clear c4
  try clear c4b0
  try clear c4b1
  try clear c4b2
  try clear c5
  try clear c5b0
  try clear c5b1
  try clear c_E
  try clear p370
  try clear q370
  obtain ⟨kq,x20_1,rfl,HA,HJ1,b_s,HB⟩:=hcut
  cases kq with
  | zero => exact absurd HA.out (by simp [a_o.j0])
  | succ kj1 =>
   have H:=HA.out
   clear HA
   simp only [a_o.j0] at H
   by_cases c6 : x20_1 = true
   ·subst c6
    have H1 : (some (([] : List Int),7)) = some (r1,r2):=by rw [if_pos rfl] at H;exact H
    clear H
    have H:=H1
    clear H1
    simp only [Option.some.injEq,Prod.mk.injEq] at H
    obtain ⟨rfl,rfl⟩:=H
    have d_x : wc.cell? ⟨c_j,0,none⟩ = some (.slice none 0 0):=(a_k b_s.out 0).trans rfl
    have d_y:=a_i b_s.out 0
    go_wp2
    refine bodyPost_ret (b_i rfl _ _ c_j 26 #[.slice none 0 0] (0,0) _ rfl (by (with_reducible repeat (first|refine a_p ?_ _|refine a_n ?_|refine a_q ?_ _));refine a_I (cs:=#[.slice none 0 0]) ?_ 0 _ rfl;(with_reducible repeat (first|refine a_p ?_ _|refine a_n ?_|refine a_q ?_ _));exact b_s.out) Try.underlying26 rfl (by kernel_rfl)) rfl ?_
    exact ⟨_,by first|rfl|(simp [a_w,a_v] <;> rfl)|(simp [*, a_w,a_v] <;> rfl),by first|exact Kd.c_C _ _ _ _ _|exact Kd.e_p _ _ _ _ _|exact Kd.e_m _ _ _ _ _|exact Kd.e_j _ _ _ _ _|exact Kd.e_q _ _ _ _ _,by repeat (first|(with_reducible first|exact HB.out|apply a_e|apply a_b|apply a_g|refine a_c ?_ b_4.out)|exact HB.out)⟩
   replace c6:=Bool.eq_false_iff.mpr c6
   subst c6
   have H1 : (if 1 ≤ (l0.length : Int) then (a_o.l0 kj1 l0 (l0.drop 1) ((l0.drop 1).length : Int) 0 ([] : List Int)) else (none)) = some (r1,r2):=by rw [if_neg (show ¬ (false = true) by decide)] at H;exact H
   clear H
   have H:=H1
   clear H1
   by_cases c8 : 1 ≤ (l0.length : Int)
   rotate_left
   ·rw [if_neg c8] at H
    exact absurd H (by simp)
   rw [if_pos c8] at H
   have c8b0:=eq_true c8
   have c8b1 : decide (1 ≤ (l0.length : Int)) = true:=decide_eq_true c8
   clear c8
   have H':=a_a.mk H
   clear H
   go_wp2_with (first|((with_reducible refine a_t (N:=4) rfl ?_);(try (refine b_D (by rfl) ?_;dsimp only));refine a_s ?hg (N:=4) ?hd (cs:=#[.slice none 0 0]) (t:=26) ?hr ?_;(case hd => rfl);(case hg => rfl);(case hr => first|(go_simp;done)|(go_simp;rfl));intro c_F hg w9 hbox hb;have b_J:=a_a.mk (hbox);have i_z:=a_a.mk ((by rw [hg];exact (a_l (by repeat (first|(with_reducible first|exact HB.out|apply a_e|apply a_b|apply a_g|refine a_c ?_ b_4.out)|exact HB.out))) : w.heap.size ≤ c_F));have c_G:=a_a.mk ((by rw [hg];exact (a_l (by repeat (first|(with_reducible first|exact HB.out|apply a_e|apply a_b|apply a_g|refine a_c ?_ b_4.out)|exact HB.out))) : w.heap.size ≤ c_F));have c_p:=a_a.mk ((by rw [hg];exact Nat.ne_of_lt (a_j (bup_ b_s.out)) : c_j ≠ c_F));have c_O:=a_a.mk ((by rw [hg];exact Nat.ne_of_gt (a_j (bup_ b_s.out)) : c_F ≠ c_j));replace b_s:=a_a.mk (a_d (bup_ b_s.out) hb);replace HB:=a_a.mk (a_h (by repeat (first|(with_reducible first|exact HB.out|apply a_e|apply a_b|apply a_g|refine a_c ?_ b_4.out)|exact HB.out)) hb);clear hb hbox hg;obtain ⟨i010,f_k,_,hsz10,_⟩:=info_parts info5;obtain ⟨A10,hcut10,hA10,hC10⟩:=d_H (P:=Try.prog) (Value.int .u8) 0 51 5 .i64 Try.underlying51 f_k hsz10 A0 c0 l0 1 (by omega) (of_decide_eq_true (by first|(with_reducible assumption)|assumption)) HC0.out;have h_t:=a_a.mk (Kd.d_u (h1:=fun _ => rfl) (hA10 _ (Kd.c_w HR0.out)));have i_A:=a_a.mk hC10;clear hA10 hC10 f_k hsz10))
   go_loopg [25] kj1 (fun kq v25 w' => ∃ (x25_2 : Int) (x372000_2 : List Int) (u372000 : Value),v25 = .int .i64 x25_2 ∧ a_a (a_o.l0 kq l0 (l0.drop 1) ((l0.drop 1).length : Int) x25_2 x372000_2 = some (r1,r2)) ∧ a_a (kq ≤ kj1) ∧ a_a (Kd.R (Kd.int .u32) 31 w' w.heap.size (fun _ => True) u372000 x372000_2) ∧ a_a (w'.heap[c_j]? = some (.cells #[(.slice none 0 0)] 26 (0,0))) ∧ a_a (w'.heap[c_F]? = some (.cells #[u372000] 26 (0,0))) ∧ a_a (Below w.heap.size w w'))
   case atStart => exact ⟨(0),(([] : List Int)),(.slice none 0 0),(by first|rfl|(simp;done)|(simp [*];done)),H',⟨Nat.le_refl _⟩,⟨by first|exact Kd.c_C _ _ _ _ _|exact Kd.e_p _ _ _ _ _|exact Kd.e_m _ _ _ _ _|exact Kd.e_j _ _ _ _ _|exact Kd.e_q _ _ _ _ _⟩,⟨by (with_reducible repeat (first|refine a_p ?_ _|refine a_n ?_|refine a_q ?_ _));exact b_s.out⟩,⟨by (with_reducible repeat (first|refine a_p ?_ _|refine a_n ?_|refine a_q ?_ _));exact b_J.out⟩,⟨by repeat (first|(with_reducible first|exact HB.out|apply a_e|apply a_b|apply a_g|refine a_c ?_ b_4.out|refine a_c ?_ c_G.out)|exact HB.out)⟩⟩
   case round =>
    clear H'
    try clear c2
    try clear p2
    try clear p3
    try clear q3
    try clear hx3
    try clear qi3
    try clear c4
    try clear c4b0
    try clear c4b1
    try clear c4b2
    try clear c5
    try clear c5b0
    try clear c5b1
    try clear c6
    try clear p6
    try clear c8
    try clear c8b0
    try clear c8b1
    try clear d_x
    try clear d_y
    try clear c_E
    try clear p2
    try clear p3
    try clear p370
    try clear q3
    try clear q370
    obtain ⟨x25_2,x372000_2,u372000,rfl,HA,HK2,a_T,b_s,b_J,HB⟩:=hrel
    cases gk with
    | zero => exact absurd HA.out (by simp [a_o.l0])
    | succ k2 =>
     have H:=HA.out
     clear HA
     simp only [a_o.l0] at H
     by_cases c11 : x25_2 < ((l0.drop 1).length : Int)
     ·rw [if_pos c11] at H
      have c11b0 : decide (x25_2 < ((l0.drop 1).length : Int)) = true:=decide_eq_true c11
      have c11b9 : decide (x25_2 < ((l0.length - 1 : Nat) : Int)) = true:=by have h_:=c11b0;rw [List.length_drop] at h_;exact h_
      have c11b8 : x25_2 < ((l0.length - 1 : Nat) : Int):=of_decide_eq_true c11b9
      clear c11
      by_cases c12 : 0 ≤ x25_2
      rotate_left
      ·rw [if_neg c12] at H
       exact absurd H (by simp)
      rw [if_pos c12] at H
      have c12b0 : decide (0 ≤ x25_2) = true:=decide_eq_true c12
      clear c12
      by_cases c13 : x25_2 < ((l0.drop 1).length : Int)
      rotate_left
      ·rw [if_neg c13] at H
       exact absurd H (by simp)
      rw [if_pos c13] at H
      have c13b0 : decide (x25_2 < ((l0.drop 1).length : Int)) = true:=decide_eq_true c13
      have c13b9 : decide (x25_2 < ((l0.length - 1 : Nat) : Int)) = true:=by have h_:=c13b0;rw [List.length_drop] at h_;exact h_
      have c13b8 : x25_2 < ((l0.length - 1 : Nat) : Int):=of_decide_eq_true c13b9
      clear c13
      by_cases c14 : x372000_2.length < 35184372088832
      rotate_left
      ·rw [if_neg c14] at H
       exact absurd H (by simp)
      rw [if_pos c14] at H
      have LMc14:=a_a.mk c14
      clear c14
      obtain ⟨y374,hy374⟩ : ∃ y_ : List Int,y_ = (x372000_2 ++ [(rd l0.tail x25_2) % 4294967296]):=⟨_,rfl⟩
      replace H : (a_o.l0 k2 l0 (l0.drop 1) ((l0.drop 1).length : Int) (wrap64 (x25_2 + 1)) y374) = some (r1,r2):=by first|(rw [hy374, ← List.drop_one];with_reducible exact H)|(rw [hy374];with_reducible exact H)|(have H2_:=(Option.bind_some _ _).symm.trans H;rw [hy374];with_reducible exact H2_)|(have H2_:=(Option.bind_some _ _).symm.trans H;with_reducible exact H2_)|with_reducible exact H|(rw [hy374];exact H)|exact H
      have Ny374:=a_a.mk hy374
      clear hy374
      have H':=a_a.mk H
      clear H
      have p373 : 0 ≤ (x25_2 : Int):=of_decide_eq_true (by first|(with_reducible assumption)|assumption)
      have q373 : x25_2 < ((l0.drop 1).length : Int):=of_decide_eq_true (by first|(with_reducible assumption)|assumption)
      obtain ⟨ad373,e373,e_x⟩:=Kd.b_R h_t.out x25_2 p373 q373
      cases e373
      replace e_x:=(HB.out.cell (World.block_lt_of_cell? w _ e_x)).trans e_x
      replace p373:=eq_true p373
      replace q373:=eq_true q373
      have i_B:=c_O.out
      have i_C:=c_p.out
      have g_s : wr.cell? ⟨c_F,0,none⟩ = some (u372000):=(a_k b_J.out 0).trans rfl
      have g_t:=a_i b_J.out 0
      go_wp2_with (first|((with_reducible refine b_1 (b:=.append) (xs:=#[.tmp 30,.tmp 33]) rfl ?_);(try (refine b_D (by rfl) ?_;dsimp only));at_builtin;refine Kd.e_H (Kd.int .u32) (w0:=w) w.heap.size rfl (.tmp 30) (.tmp 33) 24 31 (.int .u32 0) 4 rfl Try.underlying24 d_Z rfl (by decide) (by omega) u372000 x372000_2 ((rd l0.tail x25_2) % 4294967296) [.int .u32 ((rd l0.tail x25_2) % 4294967296)] (fun _ => True) (fun _ => False) rfl rfl ?aP (fun _ hk => hk.elim) ?aF ?aO ?aB ?aS ?aL ?_;(case aP => exact rfl);(case aB => exact (by repeat (first|(with_reducible first|exact HB.out|apply a_e|apply a_b|apply a_g|refine a_c ?_ b_4.out|refine a_c ?_ c_G.out)|exact HB.out)));(case aF => exact (fun _ _ => trivial));(case aO => exact (rup_ a_T.out));(case aS => exact (a_l (by repeat (first|(with_reducible first|exact HB.out|apply a_e|apply a_b|apply a_g|refine a_c ?_ b_4.out|refine a_c ?_ c_G.out)|exact HB.out))));(case aL => have:=LMc14.out;omega);intro v375 w17 ho hb hg hat;rw [← Ny374.out] at ho;have g_0:=a_a.mk (ho);replace b_s:=a_a.mk (b_z (g:=c_j) (o:=.cells #[.slice none 0 0] 26 (0,0)) (bup_ b_s.out) hg (Kd.R_ne a_T.out b_s.out (by decide)));replace b_J:=a_a.mk (b_z (g:=c_F) (o:=.cells #[u372000] 26 (0,0)) (bup_ b_J.out) hg (Kd.R_ne a_T.out b_J.out (by decide)));replace HB:=a_a.mk (hb);clear a_T ho hb hg hat;obtain ⟨Ao18,co18,eo18⟩:=Kd.a_U g_0.out;subst eo18;have g_u : w17.cell? ⟨c_F,0,none⟩ = some (u372000):=(a_k b_J.out 0).trans rfl;have g_v:=a_i b_J.out 0))
      go_roundg k2
      case measure => have:=HJ1.out;have:=HK2.out;omega
      case rel => exact ⟨(wrap64 (x25_2 + 1)),(y374),(.slice Ao18 y374.length co18),(by first|rfl|(simp;done)|(simp [*];done)),H',⟨by have:=HJ1.out;have:=HK2.out;omega⟩,⟨by (with_reducible repeat (first|apply Kd.a_E|apply Kd.a_D|apply Kd.a_H));exact Kd.a_Q (Kd.b_l (p:=⟨c_F,0,none⟩) (Kd.a_O g_0.out b_J.out (by decide)) (fun _ hk => hk.2) (.slice Ao18 y374.length co18)) (fun _ hk => trivial)⟩,⟨by (with_reducible repeat (first|refine a_p ?_ _|refine a_n ?_|refine a_q ?_ _));refine a_x ?_ c_p.out _;(with_reducible repeat (first|refine a_p ?_ _|refine a_n ?_|refine a_q ?_ _));exact b_s.out⟩,⟨by (with_reducible repeat (first|refine a_p ?_ _|refine a_n ?_|refine a_q ?_ _));refine a_I (cs:=#[u372000]) ?_ 0 _ rfl;(with_reducible repeat (first|refine a_p ?_ _|refine a_n ?_|refine a_q ?_ _));exact b_J.out⟩,⟨by repeat (first|(with_reducible first|exact HB.out|apply a_e|apply a_b|apply a_g|refine a_c ?_ b_4.out|refine a_c ?_ c_G.out)|exact HB.out)⟩⟩
     rw [if_neg c11] at H
     have c11b0 : decide (x25_2 < ((l0.drop 1).length : Int)) = false:=decide_eq_false c11
     have c11b9 : decide (x25_2 < ((l0.length - 1 : Nat) : Int)) = false:=by have h_:=c11b0;rw [List.length_drop] at h_;exact h_
     clear c11
     replace H:=Option.bind_eq_some_iff.mp H
     obtain ⟨⟨t377,t380⟩,A200,H⟩:=H
     replace H : (if t380 = 0 then ((bytes_Equal.f t377 l0).bind fun t381 => (if t381 = true then (some (x372000_2,0)) else (some (([] : List Int),180)))) else (some (([] : List Int),180))) = some (r1,r2):=H
     have A20:=a_a.mk A200
     clear A200
     by_cases c21 : t380 = 0
     rotate_left
     ·rw [if_neg c21] at H
      have c21b0 : (t380 == 0) = false:=beq_eq_false_iff_ne.mpr c21
      have c21b1 : (t380 != 0) = true:=bne_iff_ne.mpr c21
      simp only [Option.some.injEq,Prod.mk.injEq] at H
      obtain ⟨rfl,rfl⟩:=H
      have i_D:=c_O.out
      have i_E:=c_p.out
      have h_u : wr.cell? ⟨c_F,0,none⟩ = some (u372000):=(a_k b_J.out 0).trans rfl
      have h_v:=a_i b_J.out 0
      obtain ⟨Ao39,co39,eo39⟩:=Kd.a_U a_T.out
      subst eo39
      go_wp2_with (first|((with_reducible refine a_y (f:=24) rfl ?_);refine a_9 (some 39) rfl rfl Try.func24 (by kernel_rfl) rfl #[.agg #[.slice Ao39 x372000_2.length co39]] rfl (by (try simp only [List.map_toArray,List.map_cons,List.map_nil]);first|done|rfl|(simp only [List.length_drop,List.length_take];rfl)) ?_;(with_reducible refine (a_r.calls k2 _ _ x372000_2 t377 t380 _ ?side1 ?side2 A20.out).mono ?_);(case side1 => repeat (first|exact (Kd.a_z a_T.out).2.2|(with_reducible refine Kd.a_R ?_ _)|(with_reducible refine Kd.a_V ?_ _)|(with_reducible refine Kd.a_3 ?_)));(case side2 => exact (Kd.a_z a_T.out).2.1);rintro e w40 ⟨v378,rfl,ho0,hb⟩;refine ⟨_,rfl,?_⟩;have c_2:=a_a.mk (Kd.a_Z ho0 (a_l (by repeat (first|(with_reducible first|exact HB.out|apply a_e|apply a_b|apply a_g|refine a_c ?_ b_4.out|refine a_c ?_ c_G.out)|exact HB.out))));replace a_T:=a_a.mk (Kd.a_B (rup_ a_T.out) hb);replace b_s:=a_a.mk (a_d (bup_ b_s.out) hb);replace b_J:=a_a.mk (a_d (bup_ b_J.out) hb);replace HB:=a_a.mk (a_h (by repeat (first|(with_reducible first|exact HB.out|apply a_e|apply a_b|apply a_g|refine a_c ?_ b_4.out|refine a_c ?_ c_G.out)|exact HB.out)) hb);(try clear hb);(try clear hb2);(try clear hk);(try clear hi);(try clear ho0);have h_w : w40.cell? ⟨c_j,0,none⟩ = some (.slice none 0 0):=(a_k b_s.out 0).trans rfl;have h_x:=a_i b_s.out 0))
      refine bodyPost_ret (b_i rfl _ _ c_j 26 #[.slice none 0 0] (0,0) _ rfl (by (with_reducible repeat (first|refine a_p ?_ _|refine a_n ?_|refine a_q ?_ _));refine a_I (cs:=#[.slice none 0 0]) ?_ 0 _ rfl;(with_reducible repeat (first|refine a_p ?_ _|refine a_n ?_|refine a_q ?_ _));exact b_s.out) Try.underlying26 rfl (by kernel_rfl)) rfl ?_
      exact ⟨_,by first|rfl|(simp [a_w,a_v] <;> rfl)|(simp [*, a_w,a_v] <;> rfl),by first|exact Kd.c_C _ _ _ _ _|exact Kd.e_p _ _ _ _ _|exact Kd.e_m _ _ _ _ _|exact Kd.e_j _ _ _ _ _|exact Kd.e_q _ _ _ _ _,by repeat (first|(with_reducible first|exact HB.out|apply a_e|apply a_b|apply a_g|refine a_c ?_ b_4.out|refine a_c ?_ c_G.out)|exact HB.out)⟩
     rw [if_pos c21] at H
     have c21b0 : (t380 == 0) = true:=beq_iff_eq.mpr c21
     have c21b1 : (t380 != 0) = false:=bne_eq_false_iff_eq.mpr c21
     clear c21
     replace H:=Option.bind_eq_some_iff.mp H
     obtain ⟨t381,A220,H⟩:=H
     replace H : (if t381 = true then (some (x372000_2,0)) else (some (([] : List Int),180))) = some (r1,r2):=H
     have A22:=a_a.mk A220
     clear A220
     by_cases c23 : t381 = true
     ·subst c23
      have H1 : (some (x372000_2,0)) = some (r1,r2):=by rw [if_pos rfl] at H;exact H
      clear H
      have H:=H1
      clear H1
      simp only [Option.some.injEq,Prod.mk.injEq] at H
      obtain ⟨rfl,rfl⟩:=H
      have h_y:=c_O.out
      have h_z:=c_p.out
      have h_A : wr.cell? ⟨c_F,0,none⟩ = some (u372000):=(a_k b_J.out 0).trans rfl
      have h_B:=a_i b_J.out 0
      obtain ⟨Ao26,co26,eo26⟩:=Kd.a_U a_T.out
      subst eo26
      go_wp2_with (first|((with_reducible refine a_y (f:=24) rfl ?_);refine a_9 (some 39) rfl rfl Try.func24 (by kernel_rfl) rfl #[.agg #[.slice Ao26 x372000_2.length co26]] rfl (by (try simp only [List.map_toArray,List.map_cons,List.map_nil]);first|done|rfl|(simp only [List.length_drop,List.length_take];rfl)) ?_;(with_reducible refine (a_r.calls k2 _ _ x372000_2 t377 t380 _ ?side1 ?side2 A20.out).mono ?_);(case side1 => repeat (first|exact (Kd.a_z a_T.out).2.2|(with_reducible refine Kd.a_R ?_ _)|(with_reducible refine Kd.a_V ?_ _)|(with_reducible refine Kd.a_3 ?_)));(case side2 => exact (Kd.a_z a_T.out).2.1);rintro e w27 ⟨v378,rfl,ho0,hb⟩;refine ⟨_,rfl,?_⟩;have c_2:=a_a.mk (Kd.a_Z ho0 (a_l (by repeat (first|(with_reducible first|exact HB.out|apply a_e|apply a_b|apply a_g|refine a_c ?_ b_4.out|refine a_c ?_ c_G.out)|exact HB.out))));replace a_T:=a_a.mk (Kd.a_B (rup_ a_T.out) hb);replace b_s:=a_a.mk (a_d (bup_ b_s.out) hb);replace b_J:=a_a.mk (a_d (bup_ b_J.out) hb);replace HB:=a_a.mk (a_h (by repeat (first|(with_reducible first|exact HB.out|apply a_e|apply a_b|apply a_g|refine a_c ?_ b_4.out|refine a_c ?_ c_G.out)|exact HB.out)) hb);(try clear hb);(try clear hb2);(try clear hk);(try clear hi);(try clear ho0);obtain ⟨Ao28,co28,eo28⟩:=Kd.a_U c_2.out;subst eo28)|(go_at_call 25;(with_reducible refine (bytes_Equal.calls _ _ t377 _ _ l0 true _ ?side1 ?side2 ?side3 ?side4 A22.out).mono ?_);(case side1 => repeat (first|exact (Kd.a_z c_2.out).2.2|(with_reducible refine Kd.a_R ?_ _)|(with_reducible refine Kd.a_V ?_ _)|(with_reducible refine Kd.a_3 ?_)));(case side2 => exact (Kd.a_z c_2.out).2.1);(case side3 => repeat (first|exact (Kd.a_L HR0.out HB.out)|(with_reducible refine Kd.a_R ?_ _)|(with_reducible refine Kd.a_V ?_ _)|(with_reducible refine Kd.a_3 ?_)));(case side4 => exact HC0.out);rintro e w' ⟨rfl,⟨nd,rfl⟩⟩;(try (rw [b_5 w27];generalize hq_ : World.drewN w27 _ = w27;replace c_2 : a_a (Kd.R (Kd.int .u8) 5 w27 w.heap.size (fun _ => True) (.slice Ao28 t377.length co28) t377):=⟨by rw [← hq_];exact (rup_ c_2.out)⟩;replace a_T : a_a (Kd.R (Kd.int .u32) 31 w27 w.heap.size (fun _ => True) (.slice Ao26 x372000_2.length co26) x372000_2):=⟨by rw [← hq_];exact (rup_ a_T.out)⟩;replace b_s : a_a (w27.heap[c_j]? = some (.cells #[.slice none 0 0] 26 (0,0))):=⟨by rw [← hq_];exact (bup_ b_s.out)⟩;replace b_J : a_a (w27.heap[c_F]? = some (.cells #[.slice Ao26 x372000_2.length co26] 26 (0,0))):=⟨by rw [← hq_];exact (bup_ b_J.out)⟩;replace HB : a_a (Below w.heap.size w w27):=⟨by rw [← hq_];exact (by repeat (first|(with_reducible first|exact HB.out|apply a_e|apply a_b|apply a_g|refine a_c ?_ b_4.out|refine a_c ?_ c_G.out)|exact HB.out))⟩;clear hq_));have h_C : w27.cell? ⟨c_F,0,none⟩ = some (.slice Ao26 x372000_2.length co26):=(a_k b_J.out 0).trans rfl;have h_D:=a_i b_J.out 0;have h_E : w27.cell? ⟨c_j,0,none⟩ = some (.slice none 0 0):=(a_k b_s.out 0).trans rfl;have h_F:=a_i b_s.out 0))
      refine bodyPost_ret (b_i rfl _ _ c_j 26 #[.slice Ao26 x372000_2.length co26] (0,0) _ rfl (by (with_reducible repeat (first|refine a_p ?_ _|refine a_n ?_|refine a_q ?_ _));refine a_I (cs:=#[.slice none 0 0]) ?_ 0 _ rfl;(with_reducible repeat (first|refine a_p ?_ _|refine a_n ?_|refine a_q ?_ _));exact b_s.out) Try.underlying26 rfl (by kernel_rfl)) rfl ?_
      exact ⟨_,by first|rfl|(simp [a_w,a_v] <;> rfl)|(simp [*, a_w,a_v] <;> rfl),by (with_reducible repeat (first|apply Kd.a_E|apply Kd.a_D|apply Kd.a_H));exact Kd.a_Q (Kd.b_l (p:=⟨c_j,0,none⟩) (Kd.a_O a_T.out b_s.out (by decide)) (fun _ hk => hk.2) (.slice Ao26 x372000_2.length co26)) (fun _ hk => trivial),by repeat (first|(with_reducible first|exact HB.out|apply a_e|apply a_b|apply a_g|refine a_c ?_ b_4.out|refine a_c ?_ c_G.out)|exact HB.out)⟩
     replace c23:=Bool.eq_false_iff.mpr c23
     subst c23
     have H1 : (some (([] : List Int),180)) = some (r1,r2):=by rw [if_neg (show ¬ (false = true) by decide)] at H;exact H
     clear H
     have H:=H1
     clear H1
     simp only [Option.some.injEq,Prod.mk.injEq] at H
     obtain ⟨rfl,rfl⟩:=H
     have h_G:=c_O.out
     have h_H:=c_p.out
     have h_I : wr.cell? ⟨c_F,0,none⟩ = some (u372000):=(a_k b_J.out 0).trans rfl
     have h_J:=a_i b_J.out 0
     obtain ⟨Ao33,co33,eo33⟩:=Kd.a_U a_T.out
     subst eo33
     go_wp2_with (first|((with_reducible refine a_y (f:=24) rfl ?_);refine a_9 (some 39) rfl rfl Try.func24 (by kernel_rfl) rfl #[.agg #[.slice Ao33 x372000_2.length co33]] rfl (by (try simp only [List.map_toArray,List.map_cons,List.map_nil]);first|done|rfl|(simp only [List.length_drop,List.length_take];rfl)) ?_;(with_reducible refine (a_r.calls k2 _ _ x372000_2 t377 t380 _ ?side1 ?side2 A20.out).mono ?_);(case side1 => repeat (first|exact (Kd.a_z a_T.out).2.2|(with_reducible refine Kd.a_R ?_ _)|(with_reducible refine Kd.a_V ?_ _)|(with_reducible refine Kd.a_3 ?_)));(case side2 => exact (Kd.a_z a_T.out).2.1);rintro e w34 ⟨v378,rfl,ho0,hb⟩;refine ⟨_,rfl,?_⟩;have c_2:=a_a.mk (Kd.a_Z ho0 (a_l (by repeat (first|(with_reducible first|exact HB.out|apply a_e|apply a_b|apply a_g|refine a_c ?_ b_4.out|refine a_c ?_ c_G.out)|exact HB.out))));replace a_T:=a_a.mk (Kd.a_B (rup_ a_T.out) hb);replace b_s:=a_a.mk (a_d (bup_ b_s.out) hb);replace b_J:=a_a.mk (a_d (bup_ b_J.out) hb);replace HB:=a_a.mk (a_h (by repeat (first|(with_reducible first|exact HB.out|apply a_e|apply a_b|apply a_g|refine a_c ?_ b_4.out|refine a_c ?_ c_G.out)|exact HB.out)) hb);(try clear hb);(try clear hb2);(try clear hk);(try clear hi);(try clear ho0);obtain ⟨Ao35,co35,eo35⟩:=Kd.a_U c_2.out;subst eo35)|(go_at_call 25;(with_reducible refine (bytes_Equal.calls _ _ t377 _ _ l0 false _ ?side1 ?side2 ?side3 ?side4 A22.out).mono ?_);(case side1 => repeat (first|exact (Kd.a_z c_2.out).2.2|(with_reducible refine Kd.a_R ?_ _)|(with_reducible refine Kd.a_V ?_ _)|(with_reducible refine Kd.a_3 ?_)));(case side2 => exact (Kd.a_z c_2.out).2.1);(case side3 => repeat (first|exact (Kd.a_L HR0.out HB.out)|(with_reducible refine Kd.a_R ?_ _)|(with_reducible refine Kd.a_V ?_ _)|(with_reducible refine Kd.a_3 ?_)));(case side4 => exact HC0.out);rintro e w' ⟨rfl,⟨nd,rfl⟩⟩;(try (rw [b_5 w34];generalize hq_ : World.drewN w34 _ = w34;replace c_2 : a_a (Kd.R (Kd.int .u8) 5 w34 w.heap.size (fun _ => True) (.slice Ao35 t377.length co35) t377):=⟨by rw [← hq_];exact (rup_ c_2.out)⟩;replace a_T : a_a (Kd.R (Kd.int .u32) 31 w34 w.heap.size (fun _ => True) (.slice Ao33 x372000_2.length co33) x372000_2):=⟨by rw [← hq_];exact (rup_ a_T.out)⟩;replace b_s : a_a (w34.heap[c_j]? = some (.cells #[.slice none 0 0] 26 (0,0))):=⟨by rw [← hq_];exact (bup_ b_s.out)⟩;replace b_J : a_a (w34.heap[c_F]? = some (.cells #[.slice Ao33 x372000_2.length co33] 26 (0,0))):=⟨by rw [← hq_];exact (bup_ b_J.out)⟩;replace HB : a_a (Below w.heap.size w w34):=⟨by rw [← hq_];exact (by repeat (first|(with_reducible first|exact HB.out|apply a_e|apply a_b|apply a_g|refine a_c ?_ b_4.out|refine a_c ?_ c_G.out)|exact HB.out))⟩;clear hq_));have h_K : w34.cell? ⟨c_j,0,none⟩ = some (.slice none 0 0):=(a_k b_s.out 0).trans rfl;have h_L:=a_i b_s.out 0))
     refine bodyPost_ret (b_i rfl _ _ c_j 26 #[.slice none 0 0] (0,0) _ rfl (by (with_reducible repeat (first|refine a_p ?_ _|refine a_n ?_|refine a_q ?_ _));refine a_I (cs:=#[.slice none 0 0]) ?_ 0 _ rfl;(with_reducible repeat (first|refine a_p ?_ _|refine a_n ?_|refine a_q ?_ _));exact b_s.out) Try.underlying26 rfl (by kernel_rfl)) rfl ?_
     exact ⟨_,by first|rfl|(simp [a_w,a_v] <;> rfl)|(simp [*, a_w,a_v] <;> rfl),by first|exact Kd.c_C _ _ _ _ _|exact Kd.e_p _ _ _ _ _|exact Kd.e_m _ _ _ _ _|exact Kd.e_j _ _ _ _ _|exact Kd.e_q _ _ _ _ _,by repeat (first|(with_reducible first|exact HB.out|apply a_e|apply a_b|apply a_g|refine a_c ?_ b_4.out|refine a_c ?_ c_G.out)|exact HB.out)⟩
end Go.Proofs.Ytkhbffjfclepfaa.Q
end
section
namespace Go.Proofs.Ytkhbffjfclepfaa.Q
open Go.RowKit Go.Proofs.YtkhbffjfclepfaaW.PrintWords Go.Proofs.YtkhbffjfclepfaaW.PrintLast Go.Proofs.YtkhbffjfclepfaaW.PrintMore
set_option linter.unusedVariables false
set_option linter.unusedSimpArgs false
def b_v.f (a0 : Int) : Option (Int × Int):=if a0 < 0 then (some (0,2)) else (if a0 > 8 then (some (0,2)) else (if 0 ≤ a0 then (some (((shl .u32 1 a0) - 1) % 4294967296,0)) else (none)))
set_option maxHeartbeats 8000000 in
set_option maxRecDepth 100000 in
theorem b_v.calls (a0 : Int) (r1 : Int) (r2 : Int) (w : World) (h : b_v.f a0 = some (r1,r2)) :
 Calls Try.prog 32 #[.int .i64 a0] w fun e w' => e = .returned (.tuple #[.int .u32 r1,.int .i64 r2]) ∧ a_N w w':=by
 have H : (if a0 < 0 then (some (0,2)) else (if a0 > 8 then (some (0,2)) else (if 0 ≤ a0 then (some (((shl .u32 1 a0) - 1) % 4294967296,0)) else (none)))) = some (r1,r2):=h
 clear h
 by_cases c2 : a0 < 0
 ·rw [if_pos c2] at H
  have c2b0 : decide (a0 < 0) = true:=decide_eq_true c2
  clear c2
  simp only [Option.some.injEq,Prod.mk.injEq] at H
  obtain ⟨rfl,rfl⟩:=H
  go_enter Try.func32,Try.ntmps32
  go_wp2
  go_ret2
  exact ⟨by first|rfl|(simp;done)|(simp [*];done),by repeat (first|exact a_N.refl _|apply a_N.step)⟩
 rw [if_neg c2] at H
 have c2b0 : decide (a0 < 0) = false:=decide_eq_false c2
 clear c2
 by_cases c3 : a0 > 8
 ·rw [if_pos c3] at H
  have c3b0 : decide (8 < a0) = true:=decide_eq_true c3
  clear c3
  simp only [Option.some.injEq,Prod.mk.injEq] at H
  obtain ⟨rfl,rfl⟩:=H
  go_enter Try.func32,Try.ntmps32
  go_wp2
  go_ret2
  exact ⟨by first|rfl|(simp;done)|(simp [*];done),by repeat (first|exact a_N.refl _|apply a_N.step)⟩
 rw [if_neg c3] at H
 have c3b0 : decide (8 < a0) = false:=decide_eq_false c3
 clear c3
 by_cases c4 : 0 ≤ a0
 rotate_left
 ·rw [if_neg c4] at H
  exact absurd H (by simp)
 rw [if_pos c4] at H
 have c4b0:=eq_true c4
 have c4b1 : decide (0 ≤ a0) = true:=decide_eq_true c4
 clear c4
 obtain ⟨ji5,hji5⟩ : ∃ j_ : Int,(shl .u32 1 a0) = j_:=⟨_,rfl⟩
 replace H : (some (((ji5) - 1) % 4294967296,0)) = some (r1,r2):=by first|(rw [hji5] at H;exact H)|(simp only [hji5] at H ⊢; exact H)
 have hji5_ : (IntKind.u32.wrap (1 * 2 ^ min a0.toNat 32)) = ji5:=hji5
 have hji5z : a0 ≤ 32 → (IntKind.u32.wrap (1 * 2 ^ a0.toNat)) = ji5:=c_8 hji5
 have hji5u : (IntKind.u32.wrap (2 ^ min a0.toNat 32)) = ji5:=by have h_:=hji5_;rw [Int.one_mul] at h_;exact h_
 have hji5v : a0 ≤ 32 → (IntKind.u32.wrap (2 ^ a0.toNat)) = ji5:=fun hle_ => by have h_:=hji5z hle_;rw [Int.one_mul] at h_;exact h_
 simp only [Option.some.injEq,Prod.mk.injEq] at H
 obtain ⟨rfl,rfl⟩:=H
 go_enter Try.func32,Try.ntmps32
 go_wp2
 go_ret2
 exact ⟨by first|rfl|(simp;done)|(simp only [← hji5] <;> (first|rfl|simp))|(simp [*];done),by repeat (first|exact a_N.refl _|apply a_N.step)⟩
end Go.Proofs.Ytkhbffjfclepfaa.Q
end
section
namespace Go.Proofs.Ytkhbffjfclepfaa.Q
open Go.RowKit Go.Proofs.YtkhbffjfclepfaaW.PrintWords Go.Proofs.YtkhbffjfclepfaaW.PrintLast Go.Proofs.YtkhbffjfclepfaaW.PrintMore
set_option linter.unusedVariables false
set_option linter.unusedSimpArgs false
def c_M.f (a0 : Int) : Option (List Int × Int):=(b_v.f a0).bind fun bt102 => (if bt102.2 = 0 then (if bt102.1 = 0 then (some (([] : List Int),2)) else (some ((([bt102.1] : List Int)),0))) else (some (([] : List Int),2)))
set_option maxHeartbeats 8000000 in
set_option maxRecDepth 100000 in
theorem c_M.calls (a0 : Int) (r1 : List Int) (r2 : Int) (w : World) (h : c_M.f a0 = some (r1,r2)) :
 Calls Try.prog 10 #[.int .i64 a0] w fun e w' => ∃ v0_ : Value,e = .returned (.tuple #[.agg #[v0_],.int .i64 r2]) ∧ Kd.R (Kd.int .u32) 31 w' w.heap.size (fun _ => True) v0_ r1 ∧ Below w.heap.size w w':=by
 have hu26:=Try.underlying26
 have HB:=a_a.mk (Below.refl w.heap.size w)
 have H : ((b_v.f a0).bind fun bt102 => (if bt102.2 = 0 then (if bt102.1 = 0 then (some (([] : List Int),2)) else (some ((([bt102.1] : List Int)),0))) else (some (([] : List Int),2)))) = some (r1,r2):=h
 clear h
 replace H:=Option.bind_eq_some_iff.mp H
 obtain ⟨⟨t102,t103⟩,A20,H⟩:=H
 replace H : (if t103 = 0 then (if t102 = 0 then (some (([] : List Int),2)) else (some ((([t102] : List Int)),0))) else (some (([] : List Int),2))) = some (r1,r2):=H
 have A2:=a_a.mk A20
 clear A20
 by_cases c3 : t103 = 0
 rotate_left
 ·rw [if_neg c3] at H
  have c3b0 : (t103 == 0) = false:=beq_eq_false_iff_ne.mpr c3
  have c3b1 : (t103 != 0) = true:=bne_iff_ne.mpr c3
  simp only [Option.some.injEq,Prod.mk.injEq] at H
  obtain ⟨rfl,rfl⟩:=H
  go_enter Try.func10,Try.ntmps10
  go_wp2_with (first|((with_reducible refine a_t (N:=2) rfl ?_);refine a_s ?hg (N:=2) ?hd (cs:=#[.slice none 0 0]) (t:=26) ?hr ?_;(case hd => rfl);(case hg => rfl);(case hr => first|(go_simp;done)|(go_simp;rfl));intro c_k hg w12 hbox hb;have b_7:=a_a.mk (hbox);have g_1:=a_a.mk ((by rw [hg];exact (a_l (lup_ HB.out)) : w.heap.size ≤ c_k));have d_t:=a_a.mk ((by rw [hg];exact (a_l (lup_ HB.out)) : w.heap.size ≤ c_k));replace HB:=a_a.mk (a_h (lup_ HB.out) hb);clear hb hbox hg)|((with_reducible refine a_y (f:=32) rfl ?_);refine a_9 (some 8) rfl rfl Try.func32 (by kernel_rfl) rfl #[.int .i64 a0] rfl (by (try simp only [List.map_toArray,List.map_cons,List.map_nil]);first|done|rfl|(simp only [List.length_drop,List.length_take];rfl)) ?_;(with_reducible refine (b_v.calls a0 t102 t103 _ A2.out).mono ?_);rintro e w' ⟨rfl,⟨nd,rfl⟩⟩;refine ⟨_,rfl,?_⟩;(try (rw [b_5 w12];generalize hq_ : World.drewN w12 _ = w12;replace b_7 : a_a (w12.heap[c_k]? = some (.cells #[.slice none 0 0] 26 (0,0))):=⟨by rw [← hq_];exact (bup_ b_7.out)⟩;replace HB : a_a (Below w.heap.size w w12):=⟨by rw [← hq_];exact (by repeat (first|(with_reducible first|exact HB.out|apply a_e|apply a_b|apply a_g|refine a_c ?_ d_t.out)|exact HB.out))⟩;clear hq_));have g_m : w12.cell? ⟨c_k,0,none⟩ = some (.slice none 0 0):=(a_k b_7.out 0).trans rfl;have g_n:=a_i b_7.out 0))
  refine bodyPost_ret (b_i rfl _ _ c_k 26 #[.slice none 0 0] (0,0) _ rfl (by (with_reducible repeat (first|refine a_p ?_ _|refine a_n ?_|refine a_q ?_ _));refine a_I (cs:=#[.slice none 0 0]) ?_ 0 _ rfl;(with_reducible repeat (first|refine a_p ?_ _|refine a_n ?_|refine a_q ?_ _));exact b_7.out) Try.underlying26 rfl (by kernel_rfl)) rfl ?_
  exact ⟨_,by first|rfl|(simp [a_w,a_v] <;> rfl)|(simp [*, a_w,a_v] <;> rfl),by first|exact Kd.c_C _ _ _ _ _|exact Kd.e_p _ _ _ _ _|exact Kd.e_m _ _ _ _ _|exact Kd.e_j _ _ _ _ _|exact Kd.e_q _ _ _ _ _,by repeat (first|(with_reducible first|exact HB.out|apply a_e|apply a_b|apply a_g|refine a_c ?_ d_t.out)|exact HB.out)⟩
 rw [if_pos c3] at H
 have c3b0 : (t103 == 0) = true:=beq_iff_eq.mpr c3
 have c3b1 : (t103 != 0) = false:=bne_eq_false_iff_eq.mpr c3
 clear c3
 by_cases c4 : t102 = 0
 ·rw [if_pos c4] at H
  have c4b0 : (t102 == 0) = true:=beq_iff_eq.mpr c4
  have c4b1 : (t102 != 0) = false:=bne_eq_false_iff_eq.mpr c4
  clear c4
  simp only [Option.some.injEq,Prod.mk.injEq] at H
  obtain ⟨rfl,rfl⟩:=H
  go_enter Try.func10,Try.ntmps10
  go_wp2_with (first|((with_reducible refine a_t (N:=2) rfl ?_);refine a_s ?hg (N:=2) ?hd (cs:=#[.slice none 0 0]) (t:=26) ?hr ?_;(case hd => rfl);(case hg => rfl);(case hr => first|(go_simp;done)|(go_simp;rfl));intro c_k hg w5 hbox hb;have b_7:=a_a.mk (hbox);have g_1:=a_a.mk ((by rw [hg];exact (a_l (lup_ HB.out)) : w.heap.size ≤ c_k));have d_t:=a_a.mk ((by rw [hg];exact (a_l (lup_ HB.out)) : w.heap.size ≤ c_k));replace HB:=a_a.mk (a_h (lup_ HB.out) hb);clear hb hbox hg)|((with_reducible refine a_y (f:=32) rfl ?_);refine a_9 (some 8) rfl rfl Try.func32 (by kernel_rfl) rfl #[.int .i64 a0] rfl (by (try simp only [List.map_toArray,List.map_cons,List.map_nil]);first|done|rfl|(simp only [List.length_drop,List.length_take];rfl)) ?_;(with_reducible refine (b_v.calls a0 t102 t103 _ A2.out).mono ?_);rintro e w' ⟨rfl,⟨nd,rfl⟩⟩;refine ⟨_,rfl,?_⟩;(try (rw [b_5 w5];generalize hq_ : World.drewN w5 _ = w5;replace b_7 : a_a (w5.heap[c_k]? = some (.cells #[.slice none 0 0] 26 (0,0))):=⟨by rw [← hq_];exact (bup_ b_7.out)⟩;replace HB : a_a (Below w.heap.size w w5):=⟨by rw [← hq_];exact (by repeat (first|(with_reducible first|exact HB.out|apply a_e|apply a_b|apply a_g|refine a_c ?_ d_t.out)|exact HB.out))⟩;clear hq_));have f_p : w5.cell? ⟨c_k,0,none⟩ = some (.slice none 0 0):=(a_k b_7.out 0).trans rfl;have f_q:=a_i b_7.out 0))
  refine bodyPost_ret (b_i rfl _ _ c_k 26 #[.slice none 0 0] (0,0) _ rfl (by (with_reducible repeat (first|refine a_p ?_ _|refine a_n ?_|refine a_q ?_ _));refine a_I (cs:=#[.slice none 0 0]) ?_ 0 _ rfl;(with_reducible repeat (first|refine a_p ?_ _|refine a_n ?_|refine a_q ?_ _));exact b_7.out) Try.underlying26 rfl (by kernel_rfl)) rfl ?_
  exact ⟨_,by first|rfl|(simp [a_w,a_v] <;> rfl)|(simp [*, a_w,a_v] <;> rfl),by first|exact Kd.c_C _ _ _ _ _|exact Kd.e_p _ _ _ _ _|exact Kd.e_m _ _ _ _ _|exact Kd.e_j _ _ _ _ _|exact Kd.e_q _ _ _ _ _,by repeat (first|(with_reducible first|exact HB.out|apply a_e|apply a_b|apply a_g|refine a_c ?_ d_t.out)|exact HB.out)⟩
 rw [if_neg c4] at H
 have c4b0 : (t102 == 0) = false:=beq_eq_false_iff_ne.mpr c4
 have c4b1 : (t102 != 0) = true:=bne_iff_ne.mpr c4
 obtain ⟨y104,hy104⟩ : ∃ y_ : List Int,y_ = (([t102] : List Int)):=⟨_,rfl⟩
 replace H : (some (y104,0)) = some (r1,r2):=by first|(rw [hy104];with_reducible exact H)|(have H2_:=(Option.bind_some _ _).symm.trans H;rw [hy104];with_reducible exact H2_)|(have H2_:=(Option.bind_some _ _).symm.trans H;with_reducible exact H2_)|with_reducible exact H|(rw [hy104];exact H)|exact H
 have Ny104:=a_a.mk hy104
 clear hy104
 simp only [Option.some.injEq,Prod.mk.injEq] at H
 obtain ⟨rfl,rfl⟩:=H
 go_enter Try.func10,Try.ntmps10
 go_wp2_with (first|((with_reducible refine a_t (N:=2) rfl ?_);refine a_s ?hg (N:=2) ?hd (cs:=#[.slice none 0 0]) (t:=26) ?hr ?_;(case hd => rfl);(case hg => rfl);(case hr => first|(go_simp;done)|(go_simp;rfl));intro c_k hg w7 hbox hb;have b_7:=a_a.mk (hbox);have g_1:=a_a.mk ((by rw [hg];exact (a_l (lup_ HB.out)) : w.heap.size ≤ c_k));have d_t:=a_a.mk ((by rw [hg];exact (a_l (lup_ HB.out)) : w.heap.size ≤ c_k));replace HB:=a_a.mk (a_h (lup_ HB.out) hb);clear hb hbox hg)|((with_reducible refine a_y (f:=32) rfl ?_);refine a_9 (some 8) rfl rfl Try.func32 (by kernel_rfl) rfl #[.int .i64 a0] rfl (by (try simp only [List.map_toArray,List.map_cons,List.map_nil]);first|done|rfl|(simp only [List.length_drop,List.length_take];rfl)) ?_;(with_reducible refine (b_v.calls a0 t102 t103 _ A2.out).mono ?_);rintro e w' ⟨rfl,⟨nd,rfl⟩⟩;refine ⟨_,rfl,?_⟩;(try (rw [b_5 w7];generalize hq_ : World.drewN w7 _ = w7;replace b_7 : a_a (w7.heap[c_k]? = some (.cells #[.slice none 0 0] 26 (0,0))):=⟨by rw [← hq_];exact (bup_ b_7.out)⟩;replace HB : a_a (Below w.heap.size w w7):=⟨by rw [← hq_];exact (by repeat (first|(with_reducible first|exact HB.out|apply a_e|apply a_b|apply a_g|refine a_c ?_ d_t.out)|exact HB.out))⟩;clear hq_)))|((with_reducible refine a_t (N:=19) rfl ?_);refine Kd.d_q (Kd.int .u32) _ 31 ?hg (N:=19) ?hd (xs:=([t102] : List Int)) (inner:=[.int .u32 t102]) (ok:=fun _ => True) (okp:=fun _ => True) ?hr ?hp (fun _ hk => hk) trivial (Below.refl _ _) (Nat.le_refl _) (by simp) ?_;(case hd => rfl);(case hg => rfl);(case hr => first|(go_simp;done)|(go_simp;rfl));(case hp => exact (Reps.one (show Kd.M (Kd.int .u32) _ _ _ t102 [.int .u32 t102] from rfl) (Reps.none _ _)));intro v105 w8 ho9 hb hg_ hnew_;clear hg_ hnew_;(first|rw [← Ny104.out] at ho9|(simp only [Int.reduceToNat] at ho9;rw [← Ny104.out] at ho9));have g_2:=a_a.mk (Kd.a_Z ho9 (a_l (by repeat (first|(with_reducible first|exact HB.out|apply a_e|apply a_b|apply a_g|refine a_c ?_ d_t.out)|exact HB.out))));replace b_7:=a_a.mk (a_d (bup_ b_7.out) hb);replace HB:=a_a.mk (a_h (by repeat (first|(with_reducible first|exact HB.out|apply a_e|apply a_b|apply a_g|refine a_c ?_ d_t.out)|exact HB.out)) hb);clear hb ho9;obtain ⟨Ao10,co10,eo10⟩:=Kd.a_U g_2.out;subst eo10;have g_j : w8.cell? ⟨c_k,0,none⟩ = some (.slice none 0 0):=(a_k b_7.out 0).trans rfl;have g_k:=a_i b_7.out 0))
 refine bodyPost_ret (b_i rfl _ _ c_k 26 #[.slice Ao10 y104.length co10] (0,0) _ rfl (by (with_reducible repeat (first|refine a_p ?_ _|refine a_n ?_|refine a_q ?_ _));refine a_I (cs:=#[.slice none 0 0]) ?_ 0 _ rfl;(with_reducible repeat (first|refine a_p ?_ _|refine a_n ?_|refine a_q ?_ _));exact b_7.out) Try.underlying26 rfl (by kernel_rfl)) rfl ?_
 exact ⟨_,by first|rfl|(simp [a_w,a_v] <;> rfl)|(simp [*, a_w,a_v] <;> rfl),by (with_reducible repeat (first|apply Kd.a_E|apply Kd.a_D|apply Kd.a_H));exact Kd.a_Q (Kd.b_l (p:=⟨c_k,0,none⟩) (Kd.a_O g_2.out b_7.out (by decide)) (fun _ hk => hk.2) (.slice Ao10 y104.length co10)) (fun _ hk => trivial),by repeat (first|(with_reducible first|exact HB.out|apply a_e|apply a_b|apply a_g|refine a_c ?_ d_t.out)|exact HB.out)⟩
end Go.Proofs.Ytkhbffjfclepfaa.Q
end
section
namespace Go.Proofs.Ytkhbffjfclepfaa.Q
open Go.RowKit Go.Proofs.YtkhbffjfclepfaaW.PrintWords Go.Proofs.YtkhbffjfclepfaaW.PrintLast Go.Proofs.YtkhbffjfclepfaaW.PrintMore
set_option linter.unusedVariables false
set_option linter.unusedSimpArgs false
set_option maxHeartbeats 2000000 in
theorem c_x.any (g : Nat) (lb : Array Value) (eg : ∀ args w,(callFunc g args).run Try.prog w = .ok (.enter g args) w) (p : Int → Bool) (A : Option Addr) (c : Nat) (xs : List Int) (w : World)
 (hr : Kd.C (Kd.int .i64) w A xs.length xs) (hlen : xs.length ≤ 35184372088832)
 (hp : ∀ W,Below w.heap.size w W → ∀ x ∈ xs,Calls Try.prog g (#[.int .i64 x] ++ lb) W fun e W' => e = .returned (.bool (p x)) ∧ Below W.heap.size W W') :
 Calls Try.prog 59 #[.slice A xs.length c,.func (.func g) #[] lb] w fun e w' => e = .returned (.int .i64 (idxOf p xs)) ∧ Below w.heap.size w w':=by
 have HP:=a_a.mk hp
 have HR:=a_a.mk hr
 clear hp hr
 go_enter Try.func59,Try.ntmps59
 go_wp2
 go_loopg [5,8] xs.length (fun gg _ s8 wr => ∃ kk : Nat,s8 = .int .i64 kk ∧ kk ≤ xs.length ∧ xs.length - kk ≤ gg ∧ a_a (Below w.heap.size w wr) ∧ a_a (∀ j (hj : j < kk) (hj2 : j < xs.length),p xs[j] = false))
 case atStart => exact ⟨0,rfl,Nat.zero_le _,by omega,⟨Below.refl _ _⟩,⟨fun j hj => absurd hj (Nat.not_lt_zero _)⟩⟩
 case round =>
  obtain ⟨kk,rfl,hkk,hg,HB,HN⟩:=hrel
  by_cases hlt : kk < xs.length
  rotate_left
  ·have hltz : ¬ (kk : Int) < (xs.length : Int):=by omega
   have : kk = xs.length:=by omega
   go_wp2
   go_ret
   refine ⟨?_,HB.out⟩
   rw [idxOf_miss (fun j hj => HN.out j (by omega) hj)];rfl
  have hltz : (kk : Int) < (xs.length : Int):=by omega
  obtain ⟨ad,rfl,hcell⟩:=Kd.b_R (Kd.a_L HR.out HB.out) (kk : Int) (by omega) (by omega)
  have hx:=List.getElem_mem hlt
  have hrd : rd xs (kk : Int) = xs[kk]:=by unfold rd;simp [hlt]
  rw [hrd] at hcell
  simp only [Int.toNat_natCast] at hcell
  have hcall:=HP.out _ HB.out _ hx
  generalize hy : xs[kk] = y at hcell hcall hx
  have HY:=a_a.mk hy
  clear hy hx hrd
  cases hq : p y with
  | true =>
   rw [hq] at hcall
   go_wp2_with (go_at_fn g;refine hcall.mono ?_;rintro e w' ⟨rfl,hb'⟩)
   go_ret
   refine ⟨?_,HB.out.trans (hb'.mono (a_l HB.out))⟩
   rw [idxOf_hit hlt (by rw [HY.out];exact hq) (fun j hj => HN.out j hj (by omega))];rfl
  | false =>
   rw [hq] at hcall
   go_wp2_with (go_at_fn g;refine hcall.mono ?_;rintro e w' ⟨rfl,hb'⟩)
   go_roundg (xs.length - (kk + 1))
   case measure => omega
   case rel =>
    exact ⟨kk + 1,by go_num,by omega,by omega,⟨HB.out.trans (hb'.mono (a_l HB.out))⟩,⟨fun j hj hj2 => by
     by_cases e : j = kk
     ·subst e;rw [HY.out];exact hq
     exact HN.out j (by omega) hj2⟩⟩
end Go.Proofs.Ytkhbffjfclepfaa.Q
end
section
namespace Go.Proofs.Ytkhbffjfclepfaa.Q
open Go.RowKit Go.Proofs.YtkhbffjfclepfaaW.PrintWords Go.Proofs.YtkhbffjfclepfaaW.PrintLast Go.Proofs.YtkhbffjfclepfaaW.PrintMore
set_option linter.unusedVariables false
set_option linter.unusedSimpArgs false
set_option maxHeartbeats 2000000 in
theorem c_e.any (g : Nat) (lb : Array Value) (eg : ∀ args w,(callFunc g args).run Try.prog w = .ok (.enter g args) w) (p : Int → Bool) (A : Option Addr) (c : Nat) (xs : List Int) (w : World)
 (hr : Kd.C (Kd.int .i64) w A xs.length xs) (hlen : xs.length ≤ 35184372088832)
 (hp : ∀ W,Below w.heap.size w W → ∀ x ∈ xs,Calls Try.prog g (#[.int .i64 x] ++ lb) W fun e W' => e = .returned (.bool (p x)) ∧ Below W.heap.size W W') :
 Calls Try.prog 55 #[.slice A xs.length c,.func (.func g) #[] lb] w fun e w' => e = .returned (.bool (xs.any p)) ∧ Below w.heap.size w w':=by
 rw [← d_6]
 have HP:=a_a.mk hp
 have HR:=a_a.mk hr
 clear hp hr
 go_enter Try.func55,Try.ntmps55
 go_wp2_with (go_at_call 59;refine (c_x.any g lb eg p A c xs _ HR.out hlen HP.out).mono ?_;rintro e w' ⟨rfl,hb⟩)
 go_ret
 exact ⟨rfl,hb⟩
end Go.Proofs.Ytkhbffjfclepfaa.Q
end
section
namespace Go.Proofs.Ytkhbffjfclepfaa.Q
open Go.RowKit Go.Proofs.YtkhbffjfclepfaaW.PrintWords Go.Proofs.YtkhbffjfclepfaaW.PrintLast Go.Proofs.YtkhbffjfclepfaaW.PrintMore
set_option linter.unusedVariables false
set_option linter.unusedSimpArgs false
set_option maxHeartbeats 2000000 in
theorem e_Q.calls (g : Nat) (A : Option Addr) (m c : Nat) (n : Int) (w : World) (hb : w.heap[g]? = some (.cells #[.slice A m c] 26 (0,0))) :
 Calls Try.prog 56 (#[.int .i64 n] ++ #[.pointer (some ⟨g,0,none⟩)]) w fun e w' => e = .returned (.bool (decide (n < 0) || decide ((m : Int) ≤ n))) ∧ Below w.heap.size w w':=by
 have hc:=(a_k hb 0).trans rfl
 have hf:=a_i hb 0
 clear hb
 by_cases h : n < 0
 ·have h1 : decide (n < 0) = true:=decide_eq_true h
  go_enter Try.func56,Try.ntmps56
  go_wp2
  go_ret
  exact ⟨by simp [h],Below.refl _ _⟩
 have h1 : decide (n < 0) = false:=decide_eq_false h
 go_enter Try.func56,Try.ntmps56
 go_wp2
 go_ret
 exact ⟨by simp [h],Below.refl _ _⟩
def a_5.f (l0_0 : List Int) (l1 : List Int) : Option Bool :=
 if l1.length ≤ 35184372088832 then some (!(l1.any fun n => decide (n < 0) || decide ((l0_0.length : Int) ≤ n))) else none
set_option maxHeartbeats 2000000 in
theorem a_5.calls (A0_0 : Option Addr) (c0_0 : Nat) (l0_0 : List Int) (A1 : Option Addr) (c1 : Nat) (l1 : List Int) (r : Bool) (w : World) (hr0_0 : Kd.C (Kd.int .u32) w A0_0 l0_0.length l0_0) (hc0_0 : l0_0.length ≤ c0_0)
 (hr1 : Kd.C (Kd.int .i64) w A1 l1.length l1) (hc1 : l1.length ≤ c1) (h : a_5.f l0_0 l1 = some r) :
 Calls Try.prog 44 #[.agg #[.slice A0_0 l0_0.length c0_0],.slice A1 l1.length c1] w fun e w' => e = .returned (.bool r) ∧ Below w.heap.size w w':=by
 unfold a_5.f at h
 split at h
 case isFalse => cases h
 case isTrue hl =>
 obtain rfl:=Option.some.inj h
 have eg : ∀ args w,(callFunc 56 args).run Try.prog w = .ok (.enter 56 args) w:=c_5 Try.func56 (by kernel_rfl) rfl
 have HR:=a_a.mk hr1
 clear h hr0_0 hr1 hc1
 have HP:=a_a.mk (fun W (hW : Below (w.alloc (.cells #[.slice A0_0 l0_0.length c0_0] 26)).heap.size (w.alloc (.cells #[.slice A0_0 l0_0.length c0_0] 26)) W) x (_ : x ∈ l1) => e_Q.calls w.heap.size A0_0 l0_0.length c0_0 x W ((hW.block w.heap.size (by simp)).trans (e_4 _ _)))
 go_enter Try.func44,Try.ntmps44
 go_wp2_with (go_at_call 55;refine (c_e.any 56 _ eg (fun n => decide (n < 0) || decide ((l0_0.length : Int) ≤ n)) A1 c1 l1 _ (Kd.a_R HR.out _) hl HP.out).mono ?_;rintro e w' ⟨rfl,hb⟩)
 go_ret
 exact ⟨rfl,((Below.refl _ _).alloc (Nat.le_refl _) _).trans (hb.mono (by simp))⟩
end Go.Proofs.Ytkhbffjfclepfaa.Q
end
section
namespace Go.Proofs.Ytkhbffjfclepfaa.Q
open Go.RowKit Go.Proofs.YtkhbffjfclepfaaW.PrintWords Go.Proofs.YtkhbffjfclepfaaW.PrintLast Go.Proofs.YtkhbffjfclepfaaW.PrintMore
set_option linter.unusedVariables false
set_option linter.unusedSimpArgs false
set_option maxHeartbeats 2000000 in
theorem b_6.calls (ad : Addr) (c0 : Nat) (l : List Int) (w : World) (hr : Kd.C (Kd.int .u32) w (some ad) l.length l) (hl : l.length < 35184372088832) :
 Calls Try.prog 57 #[.slice (some ad) l.length c0] w fun e w' => ∃ v : Value,e = .returned v ∧ Kd.R (Kd.int .u32) 31 w' w.heap.size (fun _ => True) v l ∧ Below w.heap.size w w':=by
 have HR:=a_a.mk hr
 have HL:=a_a.mk hl
 clear hr hl
 have HB:=a_a.mk (Below.refl w.heap.size w)
 have hnil := @Lib.run_eql_slice_nil Try.prog
 go_enter Try.func57,Try.ntmps57
 go_wp2_with (first|((with_reducible refine a_t (N:=5) rfl ?_);refine Kd.d_q (Kd.int .u32) _ 31 ?hg (N:=5) ?hd (xs:=([] : List Int)) (inner:=[]) (ok:=fun _ => True) (okp:=fun _ => True) ?hr ?hp (fun _ hk => hk) trivial (Below.refl _ _) (Nat.le_refl _) (by simp) ?_;(case hd => rfl);(case hg => rfl);(case hr => first|(go_simp;done)|(go_simp;rfl));(case hp => exact (Reps.none _ _));intro v121 w5 ho6 hb hg_ hnew_;clear hg_ hnew_;have HO:=a_a.mk ho6;have n3_:=a_a.mk (a_h HB.out hb);clear HB;have HB:=n3_;clear n3_ hb ho6)|((with_reducible refine b_1 (b:=.append) (xs:=#[.tmp 5,.tmp 6]) rfl ?_);at_builtin;refine Kd.c_L (Kd.int .u32) (w0:=w) w.heap.size rfl (.tmp 5) (.tmp 6) 24 31 (.int .u32 0) 4 rfl Try.underlying24 d_Z rfl (by decide) (by omega) v121 [] l _ _ _ (fun _ => True) (fun _ => False) rfl rfl ?aO ?aR (fun _ _ h => h) (fun _ h => h.elim) ?aF ?aB ?aS ?aL ?_;(case aR => exact (Kd.a_L HR.out HB.out));(case aB => exact HB.out);(case aF => exact (fun _ _ => trivial));(case aO => exact HO.out);(case aS => exact HB.out.size);(case aL => have:=HL.out;simp;omega);intro v124 w9 ho hb hg hat;have HO2:=a_a.mk ho;have HB2:=a_a.mk hb;clear ho hb hg hat))
 go_ret
 exact ⟨_,rfl,HO2.out,HB2.out⟩
end Go.Proofs.Ytkhbffjfclepfaa.Q
end
