/- Part 2 of 6 of what the row of PoolBack stands on: contracts over the given program's functions, the plain law, the row; no condition beyond those that each theorem states. -/
import Derived.Test.YtkhbffjfclepfaaXPoolBack0
import Derived.Test.YtkhbffjfclepfaaProg
import Derived.Shelf.Abstract
import Derived.Test.YtkhbffjfclepfaaRows
import Derived.Deep.Slices
import Derived.ChangeArms
import Derived.DataReads
import Derived.ProofKit
import Derived.OpenShut
import Derived.ChangeOld
import Derived.SizedLaws
import Derived.WalkSpells
section
namespace Go.Proofs.Ytkhbffjfclepfaa
open Go.RowKit Go.Proofs.YtkhbffjfclepfaaW.PrintWords Go.Proofs.YtkhbffjfclepfaaW.PrintLast Go.Proofs.YtkhbffjfclepfaaW.PrintMore
def Up_ (w W : World) : Prop:=Below w.heap.size w W
instance (priority:=low) up0_ (w : World) : Nonempty (Up_ w w):=⟨Below.refl _ _⟩
instance upA_ (w W : World) (o : Obj) [h : Nonempty (Up_ w W)] : Nonempty (Up_ w (W.alloc o)):=h.elim fun h => ⟨a_g h o⟩
instance upN_ (w W : World) (n : Nat) [h : Nonempty (Up_ w W)] : Nonempty (Up_ w (W.drewN n)):=h.elim fun h => ⟨a_d h n⟩
instance upD_ (w W : World) [h : Nonempty (Up_ w W)] : Nonempty (Up_ w W.drew):=h.elim fun h => ⟨d_F h⟩
theorem bup_ {w W : World} {g : Nat} {o : Obj} (h : w.heap[g]? = some o) [u : Nonempty (Up_ w W)] : W.heap[g]? = some o:=u.elim fun b => a_c h b
theorem rup_ {α : Type} {d : Kd α} {e : Nat} {w W : World} {base : Nat} {ok : Nat → Prop} {v : Value} {xs : List α} (h : d.R e w base ok v xs) [u : Nonempty (Up_ w W)] : d.R e W base ok v xs:=u.elim fun b => Kd.a_w h b
theorem lup_ {w0 w W : World} (h : Below w0.heap.size w0 w) [u : Nonempty (Up_ w W)] : Below w0.heap.size w0 W:=u.elim fun b => a_j h b
abbrev T_ : Bool:=true
abbrev F_ : Bool:=false
end Go.Proofs.Ytkhbffjfclepfaa
end
section
namespace Go.Proofs.Ytkhbffjfclepfaa.Q
open Go.RowKit Go.Proofs.YtkhbffjfclepfaaW.PrintWords Go.Proofs.YtkhbffjfclepfaaW.PrintLast Go.Proofs.YtkhbffjfclepfaaW.PrintMore
set_option linter.unusedVariables false
set_option linter.unusedSimpArgs false
def errW : Option Int → Value
 | none => .nilIface
 | some c => .iface 0 (.int .i64 c)
theorem a_J : errW none = .nilIface:=rfl
theorem a_H (c : Int) : errW (some c) = .iface 0 (.int .i64 c):=rfl
theorem f_n : (Try.prog.info? 31).map (fun i => (i.zero,i.size,i.bytes)) = some (some (.int .u32 0),1,4):=by kernel_rfl
structure S36 where
 f0 : Int
 f1 : Int
 f2 : Int
 f3 : Int
 f4 : Int
def z36 : S36:=⟨(0 : Int),(0 : Int),(0 : Int),(0 : Int),(0 : Int)⟩
def k36 : Kd S36:=Kd.iso (Kd.pair (Kd.int .i64) (Kd.pair (Kd.int .i64) (Kd.pair (Kd.int .i64) (Kd.pair (Kd.int .i64) (Kd.int .u32))))) (fun x : S36 => (x.f0,x.f1,x.f2,x.f3,x.f4))
theorem g_S {w : World} {x : S36} {cs : List Value} (h : k36.K w x cs) : cs = [.int .i64 x.f0,.int .i64 x.f1,.int .i64 x.f2,.int .i64 x.f3,.int .u32 x.f4]:=by
 obtain ⟨_,_,rfl,rfl,⟨_,_,rfl,rfl,⟨_,_,rfl,rfl,⟨_,_,rfl,rfl,rfl⟩⟩⟩⟩:=h
 exact rfl
structure S26 where
 f0 : (List Int)
def z26 : S26:=⟨([] : List Int)⟩
def k26 : Kd S26:=Kd.iso (Kd.slice 31 (Kd.int .u32)) (fun x : S26 => x.f0)
theorem g_A {w : World} {x : S26} {cs : List Value} (h : k26.K w x cs) : ∃ A0 c0,cs = [.slice A0 x.f0.length c0] ∧ x.f0.length ≤ c0 ∧ (Kd.int .u32).C w A0 x.f0.length x.f0:=by
 obtain ⟨A0,c0,rfl,l0,g0⟩:=h
 exact ⟨A0,c0,rfl,l0,g0⟩
def idxOf {α : Type} (p : α → Bool) (xs : List α) : Int:=match xs.findIdx? p with|some i => i|none => -1
theorem idxOf_hit {α : Type} {p : α → Bool} {xs : List α} {k : Nat} (hk : k < xs.length) (h : p xs[k] = true) (hb : ∀ j (hj : j < k),p (xs[j]'(by omega)) = false) : idxOf p xs = k:=by
 unfold idxOf
 have : xs.findIdx? p = some k:=by
  rw [List.findIdx?_eq_some_iff_getElem]
  exact ⟨hk,h,fun j hj => by simp [hb j hj]⟩
 rw [this]
theorem idxOf_miss {α : Type} {p : α → Bool} {xs : List α} (hb : ∀ j (hj : j < xs.length),p xs[j] = false) : idxOf p xs = -1:=by
 unfold idxOf
 have : xs.findIdx? p = none:=by
  rw [List.findIdx?_eq_none_iff]
  intro x hx
  obtain ⟨j,hj,rfl⟩:=List.getElem_of_mem hx
  exact hb j hj
 rw [this]
theorem e_U {α : Type} (p : α → Bool) (xs : List α) : decide (0 ≤ idxOf p xs) = xs.any p:=by
 unfold idxOf
 cases h : xs.findIdx? p with
 | none =>
  rw [List.findIdx?_eq_none_iff] at h
  have : xs.any p = false:=List.any_eq_false.2 fun x hx => by simp [h x hx]
  rw [this];rfl
 | some i =>
  rw [List.findIdx?_eq_some_iff_getElem] at h
  obtain ⟨hi,hp,_⟩:=h
  have : xs.any p = true:=List.any_eq_true.2 ⟨_,List.getElem_mem hi,hp⟩
  rw [this];simp
theorem c_A {w : World} {g j k B : Nat} {u : Value} (h : k < B) (hg : B ≤ g) : (w.setCell ⟨g,j,none⟩ u).heap[k]? = w.heap[k]?:=Below.heap_setCell w ⟨g,j,none⟩ u k (by show k ≠ g;omega)
end Go.Proofs.Ytkhbffjfclepfaa.Q
end
section
namespace Go.Proofs.Ytkhbffjfclepfaa.Q
open Go.RowKit Go.Proofs.YtkhbffjfclepfaaW.PrintWords Go.Proofs.YtkhbffjfclepfaaW.PrintLast Go.Proofs.YtkhbffjfclepfaaW.PrintMore
open Go.ChangeShapes Go.WideShapes Go.ChangeAt
set_option linter.unusedVariables false
set_option linter.unusedSimpArgs false
structure c_5 (P : Program) (t : TypeId) {α : Type} (d : Kd α) (wf : α → Prop) : Prop where
 cells : P.cellsOf t = d.sz
 open_ : ∀ {H : Type} {enc : TypeId × Value → H} {w : World} {base : Nat} {spare : Nat → Bool} {held : Bool} {fuel : Nat} {cs : List Value} {x : DataW H × List MemPlace},
  DataW.trod enc P w base spare held fuel t cs = some x → ∃ v,d.K w v cs ∧ wf v
theorem c_5.int {P : Program} {t : TypeId} {k : IntKind} (ht : P.underlying t = some (.int k)) (hc : P.cellsOf t = 1) : c_5 P t (Kd.int k) (fun n => (Lit.int k n).wf = true) :=
 ⟨hc,fun {H enc w base spare held fuel cs x} h => by
  cases fuel with
  | zero => simp [DataW.trod] at h
  | succ n =>
   unfold DataW.trod at h
   rw [ht] at h
   split at h <;> simp_all
   exact ⟨_,rfl,h.1.2⟩⟩
theorem c_5.bool {P : Program} {t : TypeId} (ht : P.underlying t = some .bool) (hc : P.cellsOf t = 1) : c_5 P t Kd.bool (fun _ => True) :=
 ⟨hc,fun {H enc w base spare held fuel cs x} h => by
  cases fuel with
  | zero => simp [DataW.trod] at h
  | succ n =>
   unfold DataW.trod at h
   rw [ht] at h
   split at h
   all_goals first|exact ⟨_,rfl,trivial⟩|simp_all⟩
theorem f_w {α : Type} [Inhabited α] (m : Nat) (p : Nat → α → Prop) (h : ∀ i,i < m → ∃ v,p i v) : ∃ f : Nat → α, ∀ i,i < m → p i (f i):=by
 classical
 exact ⟨fun i => if hi : ∃ v,p i v then hi.choose else default,fun i hi => by
  have hx:=h i hi
  simp only [hx,dif_pos]
  exact hx.choose_spec⟩
theorem c_5.slice {P : Program} {t e : TypeId} {α : Type} {d : Kd α} {wf : α → Prop} [Inhabited α] (ht : P.underlying t = some (.slice e)) (hc : P.cellsOf t = 1) (he : c_5 P e d wf) :
 c_5 P t (Kd.slice e d) (fun l => l.length ≤ maxLen ∧ ∀ x ∈ l,wf x) :=
 ⟨hc,fun {H enc w base spare held fuel cs x} h => by
  rcases Go.Deep.open_slice ht h with ⟨rfl,_⟩ | ⟨a,len,cap,m,n,D,Pl,rfl,hb,hl,hm,hmm,_,hx⟩
  ·exact ⟨[],⟨none,0,rfl,Nat.le_refl _,⟨rfl,by simp,fun h => absurd h (Nat.lt_irrefl 0)⟩⟩,by simp,by simp⟩
  ·have hlm : len ≤ m:=by rw [hmm];split <;> omega
   obtain ⟨f,hf⟩:=f_w (α:=α) m (fun i v => ∃ cs',w.cells? base (a.add (i * P.cellsOf e)) (P.cellsOf e) = some cs' ∧ d.K w v cs' ∧ wf v) (fun i hi => by
    obtain ⟨cs',h1,h2⟩:=hx i hi
    obtain ⟨v,h3,h4⟩:=he.open_ h2
    exact ⟨v,cs',h1,h3,h4⟩)
   have hml : maxLen = 9223372036854775807:=rfl
   refine ⟨(List.range len).map f,⟨some a,cap,by simp,by simpa using hl,⟨by simp,by simp;omega,fun _ => ⟨a,rfl,fun j p hj => ?_⟩⟩⟩,by simp;omega,fun v hv => ?_⟩
   ·rw [List.getElem?_map] at hj
    obtain ⟨i,hi,rfl⟩:=Option.map_eq_some_iff.1 hj
    have hij : j < len:=by
     rcases Nat.lt_or_ge j len with h|h
     ·exact h
     ·rw [List.getElem?_eq_none (by simpa using h)] at hi;cases hi
    rw [List.getElem?_range hij] at hi
    injection hi with hi
    subst hi
    obtain ⟨cs',h1,h2,h3⟩:=hf j (by omega)
    obtain ⟨_,h4,h5⟩:=World.cells?_some h1
    rw [he.cells] at h4 h5 h1
    refine ⟨cs',h4,h2,fun i u hu => ?_⟩
    have hil : i < d.sz:=by
     rw [← h4]
     exact (List.getElem?_eq_some_iff.1 hu).1
    rw [show j * d.sz + i = j * d.sz + i from rfl, ← add_add,h5 i hil]
    exact hu
   ·obtain ⟨j,hj,rfl⟩:=List.mem_map.1 hv
    obtain ⟨_,_,_,h3⟩:=hf j (by have:=List.mem_range.1 hj;omega)
    exact h3⟩
theorem c_h {P : Program} {H : Type} {enc : TypeId × Value → H} {w : World} {base : Nat} {spare : Nat → Bool} {held : Bool} {fuel : Nat} {t : TypeId} {cs : List Value} {x : DataW H × List MemPlace} {fs : Array Field}
 (ht : P.underlying t = some (.struct fs)) (h : DataW.trod enc P w base spare held fuel t cs = some x) (i : Nat) {f : Field} (hf : fs[i]? = some f) {α : Type} {d : Kd α} {wf : α → Prop} (ho : c_5 P f.type d wf) :
 ∃ v,d.K w v ((cs.drop f.offset).take d.sz) ∧ wf v:=by
 obtain ⟨xs,n,_,_,_,hl,hx⟩:=DataW.trod_struct ht h
 have h1:=hx i f hf
 have hi : i < xs.length:=by rw [hl];exact (Array.getElem?_eq_some_iff.1 hf).1
 rw [List.getElem?_eq_getElem hi,ho.cells] at h1
 exact ho.open_ h1
theorem d_N {P : Program} {H : Type} {enc : TypeId × Value → H} {w : World} {base : Nat} {spare : Nat → Bool} {held : Bool} {fuel : Nat} {t : TypeId} {cs : List Value} {x : DataW H × List MemPlace} {fs : Array Field}
 (ht : P.underlying t = some (.struct fs)) (h : DataW.trod enc P w base spare held fuel t cs = some x) : cs.length = P.cellsOf t:=by
 obtain ⟨xs,n,_,_,hl,_⟩:=DataW.trod_struct ht h
 exact hl
theorem b_G {α : Type} {cs : List α} {n : Nat} (h : cs.length = n + 1) : ∃ a l,cs = a :: l ∧ l.length = n:=by
 cases cs with
 | nil => simp at h
 | cons a l => exact ⟨a,l,rfl,by simpa using h⟩
theorem toList_eq {α : Type} {cs : Array α} {l : List α} (h : cs.toList = l) : cs = l.toArray:=by rw [← h]
theorem own : ownKnob Try.prog.godebug = none:=by kernel_rfl
theorem laidOut : laidOutB Try.prog = true:=by kernel_rfl
instance : Inhabited S26:=⟨z26⟩
def wf26 (x : S26) : Prop:=(fun l => l.length ≤ maxLen ∧ ∀ x ∈ l,(fun n => (Lit.int .u32 n).wf = true) x) x.f0
theorem op26 : c_5 Try.prog 26 k26 wf26 :=
 ⟨by kernel_rfl,fun {H enc w base spare held fuel cs x} h => by
  have hl : cs.length = 1:=(d_N Try.underlying26 h).trans (by kernel_rfl)
  obtain ⟨v0,h0,w0⟩:=c_h Try.underlying26 h 0 rfl (c_5.slice Try.underlying24 (by kernel_rfl) (c_5.int Try.underlying31 (by kernel_rfl)))
  obtain ⟨c0,l0,rfl,hm0⟩:=b_G hl
  obtain rfl:=List.eq_nil_of_length_eq_zero hm0
  exact ⟨⟨v0⟩,h0,w0⟩⟩
instance : Inhabited S36:=⟨z36⟩
def wf36 (x : S36) : Prop:=(fun n => (Lit.int .i64 n).wf = true) x.f0 ∧ (fun n => (Lit.int .i64 n).wf = true) x.f1 ∧ (fun n => (Lit.int .i64 n).wf = true) x.f2 ∧ (fun n => (Lit.int .i64 n).wf = true) x.f3 ∧ (fun n => (Lit.int .u32 n).wf = true) x.f4
theorem op36 : c_5 Try.prog 36 k36 wf36 :=
 ⟨by kernel_rfl,fun {H enc w base spare held fuel cs x} h => by
  have hl : cs.length = 5:=(d_N Try.underlying36 h).trans (by kernel_rfl)
  obtain ⟨v0,h0,w0⟩:=c_h Try.underlying36 h 0 rfl (c_5.int Try.underlying3 (by kernel_rfl))
  obtain ⟨v1,h1,w1⟩:=c_h Try.underlying36 h 1 rfl (c_5.int Try.underlying3 (by kernel_rfl))
  obtain ⟨v2,h2,w2⟩:=c_h Try.underlying36 h 2 rfl (c_5.int Try.underlying3 (by kernel_rfl))
  obtain ⟨v3,h3,w3⟩:=c_h Try.underlying36 h 3 rfl (c_5.int Try.underlying3 (by kernel_rfl))
  obtain ⟨v4,h4,w4⟩:=c_h Try.underlying36 h 4 rfl (c_5.int Try.underlying31 (by kernel_rfl))
  obtain ⟨c0,l0,rfl,hm0⟩:=b_G hl
  obtain ⟨c1,l1,rfl,hm1⟩:=b_G hm0
  obtain ⟨c2,l2,rfl,hm2⟩:=b_G hm1
  obtain ⟨c3,l3,rfl,hm3⟩:=b_G hm2
  obtain ⟨c4,l4,rfl,hm4⟩:=b_G hm3
  obtain rfl:=List.eq_nil_of_length_eq_zero hm4
  exact ⟨⟨v0,v1,v2,v3,v4⟩,⟨[c0],[c1,c2,c3,c4],rfl,h0,⟨[c1],[c2,c3,c4],rfl,h1,⟨[c2],[c3,c4],rfl,h2,⟨[c3],[c4],rfl,h3,h4⟩⟩⟩⟩,⟨w0,w1,w2,w3,w4⟩⟩⟩
end Go.Proofs.Ytkhbffjfclepfaa.Q
end
section
namespace Go.Proofs.Ytkhbffjfclepfaa.Q
open Go.RowKit Go.Proofs.YtkhbffjfclepfaaW.PrintWords Go.Proofs.YtkhbffjfclepfaaW.PrintLast Go.Proofs.YtkhbffjfclepfaaW.PrintMore
set_option linter.unusedVariables false
set_option linter.unusedSimpArgs false
def b_i.f (l0_0 : List Int) : Option (List Int):=(some (([] : List Int) : List Int)).bind fun y144 => (if y144.length + l0_0.length < 35184372088832 then (some (y144 ++ l0_0)) else (none))
set_option maxHeartbeats 8000000 in
set_option maxRecDepth 100000 in
theorem b_i.calls (A0_0 : Option Addr) (c0_0 : Nat) (l0_0 : List Int) (r : List Int) (w : World) (hr0_0 : Kd.C (Kd.int .u32) w A0_0 l0_0.length l0_0) (hc0_0 : l0_0.length ≤ c0_0) (h : b_i.f l0_0 = some r) :
 Calls Try.prog 15 #[.agg #[.slice A0_0 l0_0.length c0_0]] w fun e w' => ∃ v0_ : Value,e = .returned (.agg #[v0_]) ∧ Kd.R (Kd.int .u32) 31 w' w.heap.size (fun _ => True) v0_ r ∧ Below w.heap.size w w':=by
 have hu26:=Try.underlying26
 have c_u:=a_a.mk hr0_0
 have c_L:=a_a.mk hc0_0
 clear hr0_0 hc0_0
 have HB:=a_a.mk (Below.refl w.heap.size w)
 have H : ((some (([] : List Int) : List Int)).bind fun y144 => (if y144.length + l0_0.length < 35184372088832 then (some (y144 ++ l0_0)) else (none))) = some r:=h
 clear h
 obtain ⟨y144,hy144⟩ : ∃ y_ : List Int,y_ = (([] : List Int)):=⟨_,rfl⟩
 replace H : (if y144.length + l0_0.length < 35184372088832 then (some (y144 ++ l0_0)) else (none)) = some r:=by first|(rw [hy144];with_reducible exact H)|(have H2_:=(Option.bind_some _ _).symm.trans H;rw [hy144];with_reducible exact H2_)|(have H2_:=(Option.bind_some _ _).symm.trans H;with_reducible exact H2_)|with_reducible exact H|(rw [hy144];exact H)|exact H
 have Ny144:=a_a.mk hy144
 clear hy144
 by_cases c2 : y144.length + l0_0.length < 35184372088832
 rotate_left
 ·rw [if_neg c2] at H
  exact absurd H (by simp)
 rw [if_pos c2] at H
 have LMc2:=a_a.mk c2
 clear c2
 obtain ⟨y147,hy147⟩ : ∃ y_ : List Int,y_ = (y144 ++ l0_0):=⟨_,rfl⟩
 replace H : (some y147) = some r:=by first|(rw [hy147];with_reducible exact H)|(have H2_:=(Option.bind_some _ _).symm.trans H;rw [hy147];with_reducible exact H2_)|(have H2_:=(Option.bind_some _ _).symm.trans H;with_reducible exact H2_)|with_reducible exact H|(rw [hy147];exact H)|exact H
 have Ny147:=a_a.mk hy147
 clear hy147
 obtain rfl:=Option.some.inj H
 go_enter Try.func15,Try.ntmps15
 go_wp2_with (first|((with_reducible refine a_s (N:=1) rfl ?_);refine a_r ?hg (N:=1) ?hd (cs:=#[.slice A0_0 l0_0.length c0_0]) (t:=26) ?hr ?_;(case hd => rfl);(case hg => rfl);(case hr => first|(go_simp;done)|(go_simp;rfl));intro f_F hg w3 hbox hb;have d_8:=a_a.mk (hbox);have r_r:=a_a.mk ((by rw [hg];exact (a_p (lup_ HB.out)) : w.heap.size ≤ f_F));have e_V:=a_a.mk ((by rw [hg];exact (a_p (lup_ HB.out)) : w.heap.size ≤ f_F));replace HB:=a_a.mk (a_j (lup_ HB.out) hb);clear hb hbox hg)|((with_reducible refine a_s (N:=2) rfl ?_);refine a_r ?hg (N:=2) ?hd (cs:=#[.slice none 0 0]) (t:=26) ?hr ?_;(case hd => rfl);(case hg => rfl);(case hr => first|(go_simp;done)|(go_simp;rfl));intro e_W hg w4 hbox hb;have e_C:=a_a.mk (hbox);have r_s:=a_a.mk ((by rw [hg];exact (a_p (by repeat (first|(with_reducible first|exact HB.out|apply a_g|apply a_d|apply a_h|refine a_b ?_ e_V.out)|exact HB.out))) : w.heap.size ≤ e_W));have f_9:=a_a.mk ((by rw [hg];exact (a_p (by repeat (first|(with_reducible first|exact HB.out|apply a_g|apply a_d|apply a_h|refine a_b ?_ e_V.out)|exact HB.out))) : w.heap.size ≤ e_W));have g_a:=a_a.mk ((by rw [hg];exact Nat.ne_of_lt (a_i (bup_ d_8.out)) : f_F ≠ e_W));have g_b:=a_a.mk ((by rw [hg];exact Nat.ne_of_gt (a_i (bup_ d_8.out)) : e_W ≠ f_F));replace d_8:=a_a.mk (a_c (bup_ d_8.out) hb);replace HB:=a_a.mk (a_j (by repeat (first|(with_reducible first|exact HB.out|apply a_g|apply a_d|apply a_h|refine a_b ?_ e_V.out)|exact HB.out)) hb);clear hb hbox hg)|((with_reducible refine a_s (N:=3) rfl ?_);refine Kd.d_v (Kd.int .u32) _ 31 ?hg (N:=3) ?hd (xs:=([] : List Int)) (inner:=[]) (ok:=fun _ => True) (okp:=fun _ => True) ?hr ?hp (fun _ hk => hk) trivial (Below.refl _ _) (Nat.le_refl _) (by simp) ?_;(case hd => rfl);(case hg => rfl);(case hr => first|(go_simp;done)|(go_simp;rfl));(case hp => exact (Reps.none _ _));intro v145 w5 ho6 hb hg_ hnew_;clear hg_ hnew_;(first|rw [← Ny144.out] at ho6|(simp only [Int.reduceToNat] at ho6;rw [← Ny144.out] at ho6));have g_U:=a_a.mk (Kd.a_5 ho6 (a_p (by repeat (first|(with_reducible first|exact HB.out|apply a_g|apply a_d|apply a_h|refine a_b ?_ e_V.out|refine a_b ?_ f_9.out)|exact HB.out))));replace d_8:=a_a.mk (a_c (bup_ d_8.out) hb);replace e_C:=a_a.mk (a_c (bup_ e_C.out) hb);replace HB:=a_a.mk (a_j (by repeat (first|(with_reducible first|exact HB.out|apply a_g|apply a_d|apply a_h|refine a_b ?_ e_V.out|refine a_b ?_ f_9.out)|exact HB.out)) hb);clear hb ho6;have hnb7:=g_a.out;have hnc7:=g_b.out;have i_Y : w5.cell? ⟨f_F,0,none⟩ = some (.slice A0_0 l0_0.length c0_0):=(a_f d_8.out 0).trans rfl;have i_Z:=a_e d_8.out 0)|((with_reducible refine d_P (b:=.append) (xs:=#[.tmp 3,.tmp 5]) rfl ?_);at_builtin;refine Kd.d_u (Kd.int .u32) (w0:=w) w.heap.size rfl (.tmp 3) (.tmp 5) 24 31 (.int .u32 0) 4 rfl Try.underlying24 f_n rfl (by decide) (by omega) v145 y144 l0_0 _ _ _ (fun _ => True) (fun _ => False) rfl rfl ?aO ?aR (fun _ _ h => h) (fun _ h => h.elim) ?aF ?aB ?aS ?aL ?_;(case aR => repeat (first|exact (Kd.a_2 c_u.out HB.out)|(with_reducible refine Kd.b_a ?_ _)|(with_reducible refine Kd.b_c ?_ _)|(with_reducible refine Kd.b_p ?_)));(case aB => exact (by repeat (first|(with_reducible first|exact HB.out|apply a_g|apply a_d|apply a_h|refine a_b ?_ e_V.out|refine a_b ?_ f_9.out)|exact HB.out)));(case aF => exact (fun _ _ => trivial));(case aO => exact (rup_ g_U.out));(case aS => exact (a_p (by repeat (first|(with_reducible first|exact HB.out|apply a_g|apply a_d|apply a_h|refine a_b ?_ e_V.out|refine a_b ?_ f_9.out)|exact HB.out))));(case aL => have:=LMc2.out;omega);intro v148 w9 ho hb hg hat;rw [← Ny147.out] at ho;have i_0:=a_a.mk (ho);replace d_8:=a_a.mk (c_w (g:=f_F) (o:=.cells #[.slice A0_0 l0_0.length c0_0] 26 (0,0)) (bup_ d_8.out) hg (Kd.R_ne g_U.out d_8.out (by decide)));replace e_C:=a_a.mk (c_w (g:=e_W) (o:=.cells #[.slice none 0 0] 26 (0,0)) (bup_ e_C.out) hg (Kd.R_ne g_U.out e_C.out (by decide)));replace HB:=a_a.mk (hb);clear g_U ho hb hg hat;obtain ⟨Ao10,co10,eo10⟩:=Kd.a_4 i_0.out;subst eo10;have h_N : w9.cell? ⟨e_W,0,none⟩ = some (.slice none 0 0):=(a_f e_C.out 0).trans rfl;have h_O:=a_e e_C.out 0))
 refine bodyPost_ret (results_cell_row rfl _ _ e_W 26 #[.slice Ao10 y147.length co10] (0,0) _ rfl (by (with_reducible repeat (first|refine a_l ?_ _|refine a_k ?_|refine a_m ?_ _));refine a_R (cs:=#[.slice none 0 0]) ?_ 0 _ rfl;(with_reducible repeat (first|refine a_l ?_ _|refine a_k ?_|refine a_m ?_ _));exact e_C.out) Try.underlying26 rfl (by kernel_rfl)) rfl ?_
 exact ⟨_,by first|rfl|(simp [a_J,a_H] <;> rfl)|(simp [*, a_J,a_H] <;> rfl),by (with_reducible repeat (first|apply Kd.a_F|apply Kd.a_E|apply Kd.a_G));exact Kd.a_L (Kd.a_7 (p:=⟨e_W,0,none⟩) (Kd.a_I i_0.out e_C.out (by decide)) (fun _ hk => hk.2) (.slice Ao10 y147.length co10)) (fun _ hk => trivial),by repeat (first|(with_reducible first|exact HB.out|apply a_g|apply a_d|apply a_h|refine a_b ?_ e_V.out|refine a_b ?_ f_9.out)|exact HB.out)⟩
end Go.Proofs.Ytkhbffjfclepfaa.Q
end
section
namespace Go.Proofs.Ytkhbffjfclepfaa.Q
open Go.RowKit Go.Proofs.YtkhbffjfclepfaaW.PrintWords Go.Proofs.YtkhbffjfclepfaaW.PrintLast Go.Proofs.YtkhbffjfclepfaaW.PrintMore
set_option linter.unusedVariables false
set_option linter.unusedSimpArgs false
def a_Z.f (l0_0 : List Int) : Option (List Int):=if 0 ≤ (mn (l0_0.length : Int) 12) then (if (mn (l0_0.length : Int) 12) ≤ (l0_0.length : Int) then ((b_i.f (l0_0.take ((mn (l0_0.length : Int) 12) : Int).toNat)).bind fun t153 => (some t153)) else (none)) else (none)
set_option maxHeartbeats 8000000 in
set_option maxRecDepth 100000 in
theorem a_Z.calls (A0_0 : Option Addr) (c0_0 : Nat) (l0_0 : List Int) (r : List Int) (w : World) (hr0_0 : Kd.C (Kd.int .u32) w A0_0 l0_0.length l0_0) (hc0_0 : l0_0.length ≤ c0_0) (h : a_Z.f l0_0 = some r) :
 Calls Try.prog 11 #[.agg #[.slice A0_0 l0_0.length c0_0]] w fun e w' => ∃ v0_ : Value,e = .returned (.agg #[v0_]) ∧ Kd.R (Kd.int .u32) 31 w' w.heap.size (fun _ => True) v0_ r ∧ Below w.heap.size w w':=by
 have hu26:=Try.underlying26
 have c_u:=a_a.mk hr0_0
 have c_L:=a_a.mk hc0_0
 clear hr0_0 hc0_0
 have HB:=a_a.mk (Below.refl w.heap.size w)
 have H : (if 0 ≤ (mn (l0_0.length : Int) 12) then (if (mn (l0_0.length : Int) 12) ≤ (l0_0.length : Int) then ((b_i.f (l0_0.take ((mn (l0_0.length : Int) 12) : Int).toNat)).bind fun t153 => (some t153)) else (none)) else (none)) = some r:=h
 clear h
 obtain ⟨ji2,hji2⟩ : ∃ j_ : Int,(mn (l0_0.length : Int) 12) = j_:=⟨_,rfl⟩
 replace H : (if 0 ≤ (ji2) then (if (ji2) ≤ (l0_0.length : Int) then ((b_i.f (l0_0.take ((ji2) : Int).toNat)).bind fun t153 => (some t153)) else (none)) else (none)) = some r:=by first|(rw [hji2] at H;exact H)|(simp only [hji2] at H ⊢; exact H)
 (try (have hji2h : ji2 ≤ 12:=by (rw [← hji2];unfold mn;(repeat' split) <;> omega)))
 (try (have hji2g : ji2 ≤ 64:=by omega))
 (try (have hji2l : 0 ≤ ji2:=by (rw [← hji2];unfold mn;(repeat' split) <;> omega)))
 (try (have hji2m : 0 ≤ ji2:=by omega))
 have hji2_ : (if 12 < (l0_0.length : Int) then 12 else (l0_0.length : Int)) = ji2:=hji2
 by_cases c3 : 0 ≤ (ji2)
 rotate_left
 ·rw [if_neg c3] at H
  exact absurd H (by simp)
 rw [if_pos c3] at H
 have c3b0:=eq_true c3
 have c3b1 : decide (0 ≤ (ji2)) = true:=decide_eq_true c3
 clear c3
 by_cases c4 : (ji2) ≤ (l0_0.length : Int)
 rotate_left
 ·rw [if_neg c4] at H
  exact absurd H (by simp)
 rw [if_pos c4] at H
 have c4b0:=eq_true c4
 have c4b1 : decide ((ji2) ≤ (l0_0.length : Int)) = true:=decide_eq_true c4
 clear c4
 replace H:=Option.bind_eq_some_iff.mp H
 obtain ⟨t153,A50,H⟩:=H
 replace H : (some t153) = some r:=H
 have A5:=a_a.mk A50
 clear A50
 obtain rfl:=Option.some.inj H
 go_enter Try.func11,Try.ntmps11
 go_wp2_with (first|((with_reducible refine a_s (N:=1) rfl ?_);refine a_r ?hg (N:=1) ?hd (cs:=#[.slice A0_0 l0_0.length c0_0]) (t:=26) ?hr ?_;(case hd => rfl);(case hg => rfl);(case hr => first|(go_simp;done)|(go_simp;rfl));intro g_c hg w6 hbox hb;have e_X:=a_a.mk (hbox);have r_t:=a_a.mk ((by rw [hg];exact (a_p (lup_ HB.out)) : w.heap.size ≤ g_c));have f_G:=a_a.mk ((by rw [hg];exact (a_p (lup_ HB.out)) : w.heap.size ≤ g_c));replace HB:=a_a.mk (a_j (lup_ HB.out) hb);clear hb hbox hg)|((with_reducible refine a_s (N:=2) rfl ?_);refine a_r ?hg (N:=2) ?hd (cs:=#[.slice none 0 0]) (t:=26) ?hr ?_;(case hd => rfl);(case hg => rfl);(case hr => first|(go_simp;done)|(go_simp;rfl));intro f_e hg w7 hbox hb;have f_H:=a_a.mk (hbox);have r_u:=a_a.mk ((by rw [hg];exact (a_p (by repeat (first|(with_reducible first|exact HB.out|apply a_g|apply a_d|apply a_h|refine a_b ?_ f_G.out)|exact HB.out))) : w.heap.size ≤ f_e));have h_P:=a_a.mk ((by rw [hg];exact (a_p (by repeat (first|(with_reducible first|exact HB.out|apply a_g|apply a_d|apply a_h|refine a_b ?_ f_G.out)|exact HB.out))) : w.heap.size ≤ f_e));have g_d:=a_a.mk ((by rw [hg];exact Nat.ne_of_lt (a_i (bup_ e_X.out)) : g_c ≠ f_e));have g_e:=a_a.mk ((by rw [hg];exact Nat.ne_of_gt (a_i (bup_ e_X.out)) : f_e ≠ g_c));replace e_X:=a_a.mk (a_c (bup_ e_X.out) hb);replace HB:=a_a.mk (a_j (by repeat (first|(with_reducible first|exact HB.out|apply a_g|apply a_d|apply a_h|refine a_b ?_ f_G.out)|exact HB.out)) hb);clear hb hbox hg;have hnb8:=g_d.out;have hnc8:=g_e.out;have o_C : w7.cell? ⟨g_c,0,none⟩ = some (.slice A0_0 l0_0.length c0_0):=(a_f e_X.out 0).trans rfl;have o_D:=a_e e_X.out 0;obtain ⟨i010,i_1,_,hsz10,_⟩:=info_parts f_n;obtain ⟨hcut10,hA10,hC10⟩:=e_A (P:=Try.prog) (Value.int .u32) 0 24 31 .i64 Try.underlying24 i_1 hsz10 A0_0 c0_0 l0_0 (ji2) (of_decide_eq_true (by first|(with_reducible assumption)|assumption)) (of_decide_eq_true (by first|(with_reducible assumption)|assumption)) c_L.out;have n_o:=a_a.mk (Kd.f_x (h1:=fun _ => rfl) (hA10 _ (Kd.e_n c_u.out)));have n_p:=a_a.mk hC10;clear hA10 hC10 i_1 hsz10)|((with_reducible refine a_z (f:=15) rfl ?_);refine b_h (some 11) rfl rfl Try.func15 (by kernel_rfl) rfl #[.agg #[.slice A0_0 (l0_0.take ((ji2) : Int).toNat).length c0_0]] rfl (by (try simp only [List.map_toArray,List.map_cons,List.map_nil]);first|done|(rw [show (l0_0.take ((ji2) : Int).toNat).length = (ji2).toNat from (by rw [List.length_take];have h_ : ((ji2) : Int) ≤ (l0_0.length : Int):=of_decide_eq_true (by first|(with_reducible assumption)|assumption);omega)] <;> rfl)|(simp only [hji2];rfl)|rfl|(simp only [List.length_drop,List.length_take];rfl)) ?_;(with_reducible refine (b_i.calls _ _ (l0_0.take ((ji2) : Int).toNat) t153 _ ?side1 ?side2 A5.out).mono ?_);(case side1 => repeat (first|exact (Kd.a_2 n_o.out HB.out)|(with_reducible refine Kd.b_a ?_ _)|(with_reducible refine Kd.b_c ?_ _)|(with_reducible refine Kd.b_p ?_)));(case side2 => exact n_p.out);rintro e w11 ⟨v154,rfl,ho0,hb⟩;refine ⟨_,rfl,?_⟩;have i_2:=a_a.mk (Kd.a_5 ho0 (a_p (by repeat (first|(with_reducible first|exact HB.out|apply a_g|apply a_d|apply a_h|refine a_b ?_ f_G.out|refine a_b ?_ h_P.out)|exact HB.out))));replace e_X:=a_a.mk (a_c (bup_ e_X.out) hb);replace f_H:=a_a.mk (a_c (bup_ f_H.out) hb);replace HB:=a_a.mk (a_j (by repeat (first|(with_reducible first|exact HB.out|apply a_g|apply a_d|apply a_h|refine a_b ?_ f_G.out|refine a_b ?_ h_P.out)|exact HB.out)) hb);(try clear hb);(try clear hb2);(try clear hk);(try clear hi);(try clear ho0);obtain ⟨Ao12,co12,eo12⟩:=Kd.a_4 i_2.out;subst eo12;have h_Q : w11.cell? ⟨f_e,0,none⟩ = some (.slice none 0 0):=(a_f f_H.out 0).trans rfl;have h_R:=a_e f_H.out 0))
 refine bodyPost_ret (results_cell_row rfl _ _ f_e 26 #[.slice Ao12 t153.length co12] (0,0) _ rfl (by (with_reducible repeat (first|refine a_l ?_ _|refine a_k ?_|refine a_m ?_ _));refine a_R (cs:=#[.slice none 0 0]) ?_ 0 _ rfl;(with_reducible repeat (first|refine a_l ?_ _|refine a_k ?_|refine a_m ?_ _));exact f_H.out) Try.underlying26 rfl (by kernel_rfl)) rfl ?_
 exact ⟨_,by first|rfl|(simp [a_J,a_H] <;> rfl)|(simp only [← hji2];first|rfl|(simp [a_J,a_H] <;> rfl))|(simp [*, a_J,a_H] <;> rfl),by (with_reducible repeat (first|apply Kd.a_F|apply Kd.a_E|apply Kd.a_G));exact Kd.a_L (Kd.a_7 (p:=⟨f_e,0,none⟩) (Kd.a_I i_2.out f_H.out (by decide)) (fun _ hk => hk.2) (.slice Ao12 t153.length co12)) (fun _ hk => trivial),by repeat (first|(with_reducible first|exact HB.out|apply a_g|apply a_d|apply a_h|refine a_b ?_ f_G.out|refine a_b ?_ h_P.out)|exact HB.out)⟩
end Go.Proofs.Ytkhbffjfclepfaa.Q
end
section
namespace Go.Proofs.Ytkhbffjfclepfaa.Q
open Go.RowKit Go.Proofs.YtkhbffjfclepfaaW.PrintWords Go.Proofs.YtkhbffjfclepfaaW.PrintLast Go.Proofs.YtkhbffjfclepfaaW.PrintMore
set_option linter.unusedVariables false
set_option linter.unusedSimpArgs false
def a_Y.f (a0 : Int) : Option (Int):=if (Go.bits .andNot .u32 a0 255) = 0 then (some 0) else (some 140)
set_option maxHeartbeats 8000000 in
set_option maxRecDepth 100000 in
theorem a_Y.calls (a0 : Int) (r : Int) (w : World) (h : a_Y.f a0 = some r) :
 Calls Try.prog 38 #[.int .u32 a0] w fun e w' => e = .returned (.int .i64 r) ∧ b_e w w':=by
 have H : (if (Go.bits .andNot .u32 a0 255) = 0 then (some 0) else (some 140)) = some r:=h
 clear h
 by_cases c2 : (Go.bits .andNot .u32 a0 255) = 0
 ·rw [if_pos c2] at H
  have c2b0 : ((Go.bits .andNot .u32 a0 255) == 0) = true:=beq_iff_eq.mpr c2
  have c2b1 : ((Go.bits .andNot .u32 a0 255) != 0) = false:=bne_eq_false_iff_eq.mpr c2
  clear c2
  obtain rfl:=Option.some.inj H
  go_enter Try.func38,Try.ntmps38
  go_wp2
  go_ret
  exact ⟨by first|rfl|(simp;done)|(simp [*];done),by repeat (first|exact b_e.refl _|apply b_e.step)⟩
 rw [if_neg c2] at H
 have c2b0 : ((Go.bits .andNot .u32 a0 255) == 0) = false:=beq_eq_false_iff_ne.mpr c2
 have c2b1 : ((Go.bits .andNot .u32 a0 255) != 0) = true:=bne_iff_ne.mpr c2
 obtain rfl:=Option.some.inj H
 go_enter Try.func38,Try.ntmps38
 go_wp2
 go_ret
 exact ⟨by first|rfl|(simp;done)|(simp [*];done),by repeat (first|exact b_e.refl _|apply b_e.step)⟩
end Go.Proofs.Ytkhbffjfclepfaa.Q
end
section
namespace Go.Proofs.Ytkhbffjfclepfaa.Q
open Go.RowKit Go.Proofs.YtkhbffjfclepfaaW.PrintWords Go.Proofs.YtkhbffjfclepfaaW.PrintLast Go.Proofs.YtkhbffjfclepfaaW.PrintMore
set_option linter.unusedVariables false
set_option linter.unusedSimpArgs false
mutual
def a_q.j0 : Nat → Bool → List Int → Option (Int)
 | 0,_,_ => none
 | k + 1,x3,x108000 => a_q.l0 k x3 0 x108000 (x108000.length : Int) 0
def a_q.l0 : Nat → Bool → Int → List Int → Int → Int → Option (Int)
 | 0,_,_,_,_,_ => none
 | k + 1,x3,x4,x18,x19,x20 => if x20 < x19 then (if 0 ≤ x20 then (if x20 < (x18.length : Int) then (if x3 = true then (if (rd x18 x20) = 0 then (a_q.l0 k false (Go.bits .or .u32 x4 (rd x18 x20)) x18 x19 (wrap64 (x20 + 1))) else ((a_Y.f (rd x18 x20)).bind fun t109 => (if t109 = 0 then (a_q.l0 k ((Go.bits .and .u32 (rd x18 x20) x4) == 0) (Go.bits .or .u32 x4 (rd x18 x20)) x18 x19 (wrap64 (x20 + 1))) else (a_q.l0 k false (Go.bits .or .u32 x4 (rd x18 x20)) x18 x19 (wrap64 (x20 + 1)))))) else (a_q.l0 k false (Go.bits .or .u32 x4 (rd x18 x20)) x18 x19 (wrap64 (x20 + 1)))) else (none)) else (none)) else (if x3 = true then (if (Go.bits .and .u32 x4 ((x4 + 1) % 4294967296)) = 0 then (some 0) else (some 180)) else (some 180))
end
def a_q.f (k : Nat) (l0_0 : List Int) : Option (Int):=if (l0_0.length : Int) > 0 then (a_q.j0 k (decide ((l0_0.length : Int) ≤ 4)) l0_0) else (a_q.j0 k false l0_0)
theorem a_q.d_O : ∀ k,(∀ y0 y1,LeO (a_q.j0 k y0 y1) (a_q.j0 (k + 1) y0 y1)) ∧ (∀ y0 y1 y2 y3 y4,LeO (a_q.l0 k y0 y1 y2 y3 y4) (a_q.l0 (k + 1) y0 y1 y2 y3 y4))
 | 0 => ⟨fun _ _ r h => by simp [a_q.j0] at h,fun _ _ _ _ _ r h => by simp [a_q.l0] at h⟩
 | k + 1 => by
  obtain ⟨ih0,ih1⟩:=a_q.d_O k
  refine ⟨?_,?_⟩
  ·intro y0 y1
   unfold a_q.j0
   repeat' first
   | (with_reducible exact ih0 _ _)
   | (with_reducible exact ih1 _ _ _ _ _)
   | (with_reducible exact LeO.refl _)
   | (with_reducible exact LeO.none _)
   | (with_reducible refine LeO.ite ?_ ?_)
   | (with_reducible refine LeO.bind ?_ (fun _ => ?_))
   | exact ih0 _ _
   | exact ih1 _ _ _ _ _
   | exact LeO.none _
   | refine LeO.ite ?_ ?_
   | refine LeO.bind ?_ (fun _ => ?_)
  ·intro y0 y1 y2 y3 y4
   unfold a_q.l0
   repeat' first
   | (with_reducible exact ih0 _ _)
   | (with_reducible exact ih1 _ _ _ _ _)
   | (with_reducible exact LeO.refl _)
   | (with_reducible exact LeO.none _)
   | (with_reducible refine LeO.ite ?_ ?_)
   | (with_reducible refine LeO.bind ?_ (fun _ => ?_))
   | exact ih0 _ _
   | exact ih1 _ _ _ _ _
   | exact LeO.none _
   | refine LeO.ite ?_ ?_
   | refine LeO.bind ?_ (fun _ => ?_)
theorem a_q.mono : ∀ a0 k,LeO (a_q.f k a0) (a_q.f (k + 1) a0):=by
 intro a0 k
 obtain ⟨ih0,ih1⟩:=a_q.d_O k
 unfold a_q.f
 repeat' first
  | (with_reducible exact ih0 _ _)
  | (with_reducible exact ih1 _ _ _ _ _)
  | (with_reducible exact LeO.refl _)
  | (with_reducible exact LeO.none _)
  | (with_reducible refine LeO.ite ?_ ?_)
  | (with_reducible refine LeO.bind ?_ (fun _ => ?_))
  | exact ih0 _ _
  | exact ih1 _ _ _ _ _
  | exact LeO.none _
  | refine LeO.ite ?_ ?_
  | refine LeO.bind ?_ (fun _ => ?_)
set_option maxHeartbeats 8000000 in
set_option maxRecDepth 100000 in
theorem a_q.calls (k : Nat) (A0_0 : Option Addr) (c0_0 : Nat) (l0_0 : List Int) (r : Int) (w : World) (hr0_0 : Kd.C (Kd.int .u32) w A0_0 l0_0.length l0_0) (hc0_0 : l0_0.length ≤ c0_0) (h : a_q.f k l0_0 = some r) :
 Calls Try.prog 17 #[.agg #[.slice A0_0 l0_0.length c0_0]] w fun e w' => e = .returned (.int .i64 r) ∧ Below w.heap.size w w':=by
 have hu26:=Try.underlying26
 have c_u:=a_a.mk hr0_0
 have c_L:=a_a.mk hc0_0
 clear hr0_0 hc0_0
 have HB:=a_a.mk (Below.refl w.heap.size w)
 have H : (if (l0_0.length : Int) > 0 then (a_q.j0 k (decide ((l0_0.length : Int) ≤ 4)) l0_0) else (a_q.j0 k false l0_0)) = some r:=h
 clear h
 have HC2:=a_a.mk H
 clear H
 go_enter Try.func17,Try.ntmps17
 go_upto_region 1 with (first|((with_reducible refine a_s (N:=1) rfl ?_);(try (refine b_P (by rfl) ?_;dsimp only));refine a_r ?hg (N:=1) ?hd (cs:=#[.slice A0_0 l0_0.length c0_0]) (t:=26) ?hr ?_;(case hd => rfl);(case hg => rfl);(case hr => first|(go_simp;done)|(go_simp;rfl));intro f_f hg w3 hbox hb;have d_k:=a_a.mk (hbox);have r_v:=a_a.mk ((by rw [hg];exact (a_p (lup_ HB.out)) : w.heap.size ≤ f_f));have e_j:=a_a.mk ((by rw [hg];exact (a_p (lup_ HB.out)) : w.heap.size ≤ f_f));replace HB:=a_a.mk (a_j (lup_ HB.out) hb);clear hb hbox hg))
 (try simp only [Act.put,List.setIfInBounds_toArray,List.set_cons_zero,List.set_cons_succ])
 go_cut [3] (fun v3 wc => ∃ (kq : Nat) (x3_1 : Bool),v3 = .bool x3_1 ∧ a_a (a_q.j0 kq x3_1 l0_0 = some r) ∧ a_a (kq ≤ k) ∧ a_a (wc.heap[f_f]? = some (.cells #[(.slice A0_0 l0_0.length c0_0)] 26 (0,0))) ∧ a_a (Below w.heap.size w wc))
 case first =>
  have H:=HC2.out
  clear HC2
  by_cases c4 : (l0_0.length : Int) > 0
  ·rw [if_pos c4] at H
   have c4b0 : decide (0 < (l0_0.length : Int)) = true:=decide_eq_true c4
   have c4b1 : decide (0 < l0_0.length) = true:=decide_eq_true (by omega)
   clear c4
   (first|rw [c4b0]|(simp only [b_m,b_o];rw [c4b0])|skip)
   have H':=a_a.mk H
   clear H
   have h_p : w3.cell? ⟨f_f,0,none⟩ = some (.slice A0_0 l0_0.length c0_0):=(a_f d_k.out 0).trans rfl
   have h_q:=a_e d_k.out 0
   go_wp2
   go_meet
   case rel => exact ⟨_,(decide ((l0_0.length : Int) ≤ 4)),(by first|rfl|(simp;done)|(simp [*];done)),H',⟨by first|omega|exact Nat.le_refl _⟩,⟨by (with_reducible repeat (first|refine a_l ?_ _|refine a_k ?_|refine a_m ?_ _));exact d_k.out⟩,⟨by repeat (first|(with_reducible first|exact HB.out|apply a_g|apply a_d|apply a_h|refine a_b ?_ e_j.out)|exact HB.out)⟩⟩
  rw [if_neg c4] at H
  have c4b0 : decide (0 < (l0_0.length : Int)) = false:=decide_eq_false c4
  have c4b1 : decide (0 < l0_0.length) = false:=decide_eq_false (by omega)
  clear c4
  (first|rw [c4b0]|(simp only [b_m,b_o];rw [c4b0])|skip)
  have H':=a_a.mk H
  clear H
  have g_f : w3.cell? ⟨f_f,0,none⟩ = some (.slice A0_0 l0_0.length c0_0):=(a_f d_k.out 0).trans rfl
  have g_g:=a_e d_k.out 0
  go_wp2
  go_meet
  case rel => exact ⟨_,(false),(by first|rfl|(simp;done)|(simp [*];done)),H',⟨by first|omega|exact Nat.le_refl _⟩,⟨by (with_reducible repeat (first|refine a_l ?_ _|refine a_k ?_|refine a_m ?_ _));exact d_k.out⟩,⟨by repeat (first|(with_reducible first|exact HB.out|apply a_g|apply a_d|apply a_h|refine a_b ?_ e_j.out)|exact HB.out)⟩⟩
 case rest =>
  clear HC2
  try clear c1
  try clear p2
  try clear c4
  try clear c4b0
  try clear c4b1
  try clear h_p
  try clear g_f
  try clear h_q
  try clear g_g
  obtain ⟨kq,x3_1,rfl,HA,HJ1,d_k,HB⟩:=hcut
  cases kq with
  | zero => exact absurd HA.out (by simp [a_q.j0])
  | succ kj1 =>
   have H:=HA.out
   clear HA
   simp only [a_q.j0] at H
   have H':=a_a.mk H
   clear H
   have h_r : wc.cell? ⟨f_f,0,none⟩ = some (.slice A0_0 l0_0.length c0_0):=(a_f d_k.out 0).trans rfl
   have h_s:=a_e d_k.out 0
   go_wp2
   go_loopg [3,4,20] kj1 (fun kq v3 v4 v20 w' => ∃ (x3_2 : Bool) (x4_2 : Int) (x20_2 : Int),v3 = .bool x3_2 ∧ v4 = .int .u32 x4_2 ∧ v20 = .int .i64 x20_2 ∧ a_a (a_q.l0 kq x3_2 x4_2 l0_0 (l0_0.length : Int) x20_2 = some r) ∧ a_a (kq ≤ kj1) ∧ a_a (w'.heap[f_f]? = some (.cells #[(.slice A0_0 l0_0.length c0_0)] 26 (0,0))) ∧ a_a (Below w.heap.size w w'))
   case atStart => exact ⟨(x3_1),(0),(0),(by first|rfl|(simp;done)|(simp [*];done)),(by first|rfl|(simp;done)|(simp [*];done)),(by first|rfl|(simp;done)|(simp [*];done)),H',⟨Nat.le_refl _⟩,⟨by (with_reducible repeat (first|refine a_l ?_ _|refine a_k ?_|refine a_m ?_ _));exact d_k.out⟩,⟨by repeat (first|(with_reducible first|exact HB.out|apply a_g|apply a_d|apply a_h|refine a_b ?_ e_j.out)|exact HB.out)⟩⟩
   case round =>
    clear H'
    try clear c1
    try clear p2
    try clear c4
    try clear c4b0
    try clear c4b1
    try clear h_p
    try clear g_f
    try clear h_r
    try clear h_q
    try clear g_g
    try clear h_s
    try clear p2
    obtain ⟨x3_2,x4_2,x20_2,rfl,rfl,rfl,HA,HK2,d_k,HB⟩:=hrel
    cases gk with
    | zero => exact absurd HA.out (by simp [a_q.l0])
    | succ k2 =>
     have H:=HA.out
     clear HA
     simp only [a_q.l0] at H
     by_cases c8 : x20_2 < (l0_0.length : Int)
     rotate_left
     ·rw [if_neg c8] at H
      have c8b0 : decide (x20_2 < (l0_0.length : Int)) = false:=decide_eq_false c8
      clear c8
      by_cases c15 : x3_2 = true
      rotate_left
      ·replace c15:=Bool.eq_false_iff.mpr c15
       subst c15
       have H1 : (some 180) = some r:=by rw [if_neg (show ¬ (false = true) by decide)] at H;exact H
       clear H
       have H:=H1
       clear H1
       obtain rfl:=Option.some.inj H
       go_wp2
       go_ret
       exact ⟨by first|rfl|(simp [a_J,a_H] <;> rfl)|(simp [*, a_J,a_H] <;> rfl),by repeat (first|(with_reducible first|exact HB.out|apply a_g|apply a_d|apply a_h|refine a_b ?_ e_j.out)|exact HB.out)⟩
      subst c15
      have H1 : (if (Go.bits .and .u32 x4_2 ((x4_2 + 1) % 4294967296)) = 0 then (some 0) else (some 180)) = some r:=by rw [if_pos rfl] at H;exact H
      clear H
      have H:=H1
      clear H1
      by_cases c16 : (Go.bits .and .u32 x4_2 ((x4_2 + 1) % 4294967296)) = 0
      ·rw [if_pos c16] at H
       have c16b0 : ((Go.bits .and .u32 x4_2 ((x4_2 + 1) % 4294967296)) == 0) = true:=beq_iff_eq.mpr c16
       have c16b1 : ((Go.bits .and .u32 x4_2 ((x4_2 + 1) % 4294967296)) != 0) = false:=bne_eq_false_iff_eq.mpr c16
       clear c16
       obtain rfl:=Option.some.inj H
       go_wp2
       go_ret
       exact ⟨by first|rfl|(simp [a_J,a_H] <;> rfl)|(simp [*, a_J,a_H] <;> rfl),by repeat (first|(with_reducible first|exact HB.out|apply a_g|apply a_d|apply a_h|refine a_b ?_ e_j.out)|exact HB.out)⟩
      rw [if_neg c16] at H
      have c16b0 : ((Go.bits .and .u32 x4_2 ((x4_2 + 1) % 4294967296)) == 0) = false:=beq_eq_false_iff_ne.mpr c16
      have c16b1 : ((Go.bits .and .u32 x4_2 ((x4_2 + 1) % 4294967296)) != 0) = true:=bne_iff_ne.mpr c16
      obtain rfl:=Option.some.inj H
      go_wp2
      go_ret
      exact ⟨by first|rfl|(simp [a_J,a_H] <;> rfl)|(simp [*, a_J,a_H] <;> rfl),by repeat (first|(with_reducible first|exact HB.out|apply a_g|apply a_d|apply a_h|refine a_b ?_ e_j.out)|exact HB.out)⟩
     rw [if_pos c8] at H
     have c8b0 : decide (x20_2 < (l0_0.length : Int)) = true:=decide_eq_true c8
     clear c8
     by_cases c9 : 0 ≤ x20_2
     rotate_left
     ·rw [if_neg c9] at H
      exact absurd H (by simp)
     rw [if_pos c9] at H
     have c9b0 : decide (0 ≤ x20_2) = true:=decide_eq_true c9
     clear c9
     by_cases c10 : x20_2 < (l0_0.length : Int)
     rotate_left
     ·rw [if_neg c10] at H
      exact absurd H (by simp)
     rw [if_pos c10] at H
     have c10b0 : decide (x20_2 < (l0_0.length : Int)) = true:=decide_eq_true c10
     clear c10
     by_cases c11 : x3_2 = true
     rotate_left
     ·replace c11:=Bool.eq_false_iff.mpr c11
      subst c11
      have H1 : (a_q.l0 k2 false (Go.bits .or .u32 x4_2 (rd l0_0 x20_2)) l0_0 (l0_0.length : Int) (wrap64 (x20_2 + 1))) = some r:=by rw [if_neg (show ¬ (false = true) by decide)] at H;exact H
      clear H
      have H:=H1
      clear H1
      have H':=a_a.mk H
      clear H
      have p108 : 0 ≤ (x20_2 : Int):=of_decide_eq_true (by first|(with_reducible assumption)|assumption)
      have q108 : x20_2 < (l0_0.length : Int):=of_decide_eq_true (by first|(with_reducible assumption)|assumption)
      obtain ⟨ad108,e108,c_g⟩:=Kd.c_B c_u.out x20_2 p108 q108
      cases e108
      replace c_g:=(HB.out.cell (World.block_lt_of_cell? w _ c_g)).trans c_g
      replace p108:=eq_true p108
      replace q108:=eq_true q108
      go_wp2
      go_roundg k2
      case measure => have:=HJ1.out;have:=HK2.out;omega
      case rel => exact ⟨(false),(Go.bits .or .u32 x4_2 (rd l0_0 x20_2)),(wrap64 (x20_2 + 1)),(by first|rfl|(simp;done)|(simp [*];done)),(by first|rfl|(simp;done)|(simp [*];done)),(by first|rfl|(simp;done)|(simp [*];done)),H',⟨by have:=HJ1.out;have:=HK2.out;omega⟩,⟨by (with_reducible repeat (first|refine a_l ?_ _|refine a_k ?_|refine a_m ?_ _));exact d_k.out⟩,⟨by repeat (first|(with_reducible first|exact HB.out|apply a_g|apply a_d|apply a_h|refine a_b ?_ e_j.out)|exact HB.out)⟩⟩
     subst c11
     have H1 : (if (rd l0_0 x20_2) = 0 then (a_q.l0 k2 false (Go.bits .or .u32 x4_2 (rd l0_0 x20_2)) l0_0 (l0_0.length : Int) (wrap64 (x20_2 + 1))) else ((a_Y.f (rd l0_0 x20_2)).bind fun t109 => (if t109 = 0 then (a_q.l0 k2 ((Go.bits .and .u32 (rd l0_0 x20_2) x4_2) == 0) (Go.bits .or .u32 x4_2 (rd l0_0 x20_2)) l0_0 (l0_0.length : Int) (wrap64 (x20_2 + 1))) else (a_q.l0 k2 false (Go.bits .or .u32 x4_2 (rd l0_0 x20_2)) l0_0 (l0_0.length : Int) (wrap64 (x20_2 + 1)))))) = some r:=by rw [if_pos rfl] at H;exact H
     clear H
     have H:=H1
     clear H1
     by_cases c12 : (rd l0_0 x20_2) = 0
     ·rw [if_pos c12] at H
      have c12b0 : ((rd l0_0 x20_2) == 0) = true:=beq_iff_eq.mpr c12
      have c12b1 : ((rd l0_0 x20_2) != 0) = false:=bne_eq_false_iff_eq.mpr c12
      clear c12
      have H':=a_a.mk H
      clear H
      have p108 : 0 ≤ (x20_2 : Int):=of_decide_eq_true (by first|(with_reducible assumption)|assumption)
      have q108 : x20_2 < (l0_0.length : Int):=of_decide_eq_true (by first|(with_reducible assumption)|assumption)
      obtain ⟨ad108,e108,c_g⟩:=Kd.c_B c_u.out x20_2 p108 q108
      cases e108
      replace c_g:=(HB.out.cell (World.block_lt_of_cell? w _ c_g)).trans c_g
      replace p108:=eq_true p108
      replace q108:=eq_true q108
      go_wp2
      go_roundg k2
      case measure => have:=HJ1.out;have:=HK2.out;omega
      case rel => exact ⟨(false),(Go.bits .or .u32 x4_2 (rd l0_0 x20_2)),(wrap64 (x20_2 + 1)),(by first|rfl|(simp;done)|(simp [*];done)),(by first|rfl|(simp;done)|(simp [*];done)),(by first|rfl|(simp;done)|(simp [*];done)),H',⟨by have:=HJ1.out;have:=HK2.out;omega⟩,⟨by (with_reducible repeat (first|refine a_l ?_ _|refine a_k ?_|refine a_m ?_ _));exact d_k.out⟩,⟨by repeat (first|(with_reducible first|exact HB.out|apply a_g|apply a_d|apply a_h|refine a_b ?_ e_j.out)|exact HB.out)⟩⟩
     rw [if_neg c12] at H
     have c12b0 : ((rd l0_0 x20_2) == 0) = false:=beq_eq_false_iff_ne.mpr c12
     have c12b1 : ((rd l0_0 x20_2) != 0) = true:=bne_iff_ne.mpr c12
     replace H:=Option.bind_eq_some_iff.mp H
     obtain ⟨t109,A130,H⟩:=H
     replace H : (if t109 = 0 then (a_q.l0 k2 ((Go.bits .and .u32 (rd l0_0 x20_2) x4_2) == 0) (Go.bits .or .u32 x4_2 (rd l0_0 x20_2)) l0_0 (l0_0.length : Int) (wrap64 (x20_2 + 1))) else (a_q.l0 k2 false (Go.bits .or .u32 x4_2 (rd l0_0 x20_2)) l0_0 (l0_0.length : Int) (wrap64 (x20_2 + 1)))) = some r:=H
     have A13:=a_a.mk A130
     clear A130
     by_cases c14 : t109 = 0
     ·rw [if_pos c14] at H
      have c14b0 : (t109 == 0) = true:=beq_iff_eq.mpr c14
      have c14b1 : (t109 != 0) = false:=bne_eq_false_iff_eq.mpr c14
      clear c14
      have H':=a_a.mk H
      clear H
      have p108 : 0 ≤ (x20_2 : Int):=of_decide_eq_true (by first|(with_reducible assumption)|assumption)
      have q108 : x20_2 < (l0_0.length : Int):=of_decide_eq_true (by first|(with_reducible assumption)|assumption)
      obtain ⟨ad108,e108,c_g⟩:=Kd.c_B c_u.out x20_2 p108 q108
      cases e108
      replace c_g:=(HB.out.cell (World.block_lt_of_cell? w _ c_g)).trans c_g
      replace p108:=eq_true p108
      replace q108:=eq_true q108
      go_wp2_with (first|(go_at_call 38;(with_reducible refine (a_Y.calls (rd l0_0 x20_2) t109 _ A13.out).mono ?_);rintro e w' ⟨rfl,⟨nd,rfl⟩⟩))
      go_roundg k2
      case measure => have:=HJ1.out;have:=HK2.out;omega
      case rel => exact ⟨(((Go.bits .and .u32 (rd l0_0 x20_2) x4_2) == 0)),(Go.bits .or .u32 x4_2 (rd l0_0 x20_2)),(wrap64 (x20_2 + 1)),(by first|rfl|(simp;done)|(simp [*];done)),(by first|rfl|(simp;done)|(simp [*];done)),(by first|rfl|(simp;done)|(simp [*];done)),H',⟨by have:=HJ1.out;have:=HK2.out;omega⟩,⟨by (with_reducible repeat (first|refine a_l ?_ _|refine a_k ?_|refine a_m ?_ _));exact d_k.out⟩,⟨by repeat (first|(with_reducible first|exact HB.out|apply a_g|apply a_d|apply a_h|refine a_b ?_ e_j.out)|exact HB.out)⟩⟩
     rw [if_neg c14] at H
     have c14b0 : (t109 == 0) = false:=beq_eq_false_iff_ne.mpr c14
     have c14b1 : (t109 != 0) = true:=bne_iff_ne.mpr c14
     have H':=a_a.mk H
     clear H
     have p108 : 0 ≤ (x20_2 : Int):=of_decide_eq_true (by first|(with_reducible assumption)|assumption)
     have q108 : x20_2 < (l0_0.length : Int):=of_decide_eq_true (by first|(with_reducible assumption)|assumption)
     obtain ⟨ad108,e108,c_g⟩:=Kd.c_B c_u.out x20_2 p108 q108
     cases e108
     replace c_g:=(HB.out.cell (World.block_lt_of_cell? w _ c_g)).trans c_g
     replace p108:=eq_true p108
     replace q108:=eq_true q108
     go_wp2_with (first|(go_at_call 38;(with_reducible refine (a_Y.calls (rd l0_0 x20_2) t109 _ A13.out).mono ?_);rintro e w' ⟨rfl,⟨nd,rfl⟩⟩))
     go_roundg k2
     case measure => have:=HJ1.out;have:=HK2.out;omega
     case rel => exact ⟨(false),(Go.bits .or .u32 x4_2 (rd l0_0 x20_2)),(wrap64 (x20_2 + 1)),(by first|rfl|(simp;done)|(simp [*];done)),(by first|rfl|(simp;done)|(simp [*];done)),(by first|rfl|(simp;done)|(simp [*];done)),H',⟨by have:=HJ1.out;have:=HK2.out;omega⟩,⟨by (with_reducible repeat (first|refine a_l ?_ _|refine a_k ?_|refine a_m ?_ _));exact d_k.out⟩,⟨by repeat (first|(with_reducible first|exact HB.out|apply a_g|apply a_d|apply a_h|refine a_b ?_ e_j.out)|exact HB.out)⟩⟩
end Go.Proofs.Ytkhbffjfclepfaa.Q
end
section
namespace Go.Proofs.Ytkhbffjfclepfaa.Q
open Go.RowKit Go.Proofs.YtkhbffjfclepfaaW.PrintWords Go.Proofs.YtkhbffjfclepfaaW.PrintLast Go.Proofs.YtkhbffjfclepfaaW.PrintMore
set_option linter.unusedVariables false
set_option linter.unusedSimpArgs false
def a_O.l0 : Nat → List Int → List Int → Int → Int → Option (Bool)
 | 0,_,_,_,_ => none
 | k + 1,x0,x1,x12,x13 => if x13 < x12 then (if 0 ≤ x13 then (if x13 < (x0.length : Int) then (if x13 < (x1.length : Int) then (if (rd x0 x13) = (rd x1 x13) then (a_O.l0 k x0 x1 x12 (wrap64 (x13 + 1))) else (some false)) else (none)) else (none)) else (none)) else (some true)
def a_O.f (k : Nat) (l0 : List Int) (l1 : List Int) : Option (Bool):=if (l0.length : Int) = (l1.length : Int) then (a_O.l0 k l0 l1 (l0.length : Int) 0) else (some false)
theorem a_O.d_O : ∀ k,(∀ y0 y1 y2 y3,LeO (a_O.l0 k y0 y1 y2 y3) (a_O.l0 (k + 1) y0 y1 y2 y3))
 | 0 => fun _ _ _ _ r h => by simp [a_O.l0] at h
 | k + 1 => by
  have ih0:=a_O.d_O k
  ·intro y0 y1 y2 y3
   unfold a_O.l0
   repeat' first
   | (with_reducible exact ih0 _ _ _ _)
   | (with_reducible exact LeO.refl _)
   | (with_reducible exact LeO.none _)
   | (with_reducible refine LeO.ite ?_ ?_)
   | (with_reducible refine LeO.bind ?_ (fun _ => ?_))
   | exact ih0 _ _ _ _
   | exact LeO.none _
   | refine LeO.ite ?_ ?_
   | refine LeO.bind ?_ (fun _ => ?_)
theorem a_O.mono : ∀ a0 a1 k,LeO (a_O.f k a0 a1) (a_O.f (k + 1) a0 a1):=by
 intro a0 a1 k
 have ih0:=a_O.d_O k
 unfold a_O.f
 repeat' first
  | (with_reducible exact ih0 _ _ _ _)
  | (with_reducible exact LeO.refl _)
  | (with_reducible exact LeO.none _)
  | (with_reducible refine LeO.ite ?_ ?_)
  | (with_reducible refine LeO.bind ?_ (fun _ => ?_))
  | exact ih0 _ _ _ _
  | exact LeO.none _
  | refine LeO.ite ?_ ?_
  | refine LeO.bind ?_ (fun _ => ?_)
set_option maxHeartbeats 8000000 in
set_option maxRecDepth 100000 in
theorem a_O.calls (k : Nat) (A0 : Option Addr) (c0 : Nat) (l0 : List Int) (A1 : Option Addr) (c1 : Nat) (l1 : List Int) (r : Bool) (w : World) (hr0 : Kd.C (Kd.int .u32) w A0 l0.length l0) (hc0 : l0.length ≤ c0) (hr1 : Kd.C (Kd.int .u32) w A1 l1.length l1) (hc1 : l1.length ≤ c1) (h : a_O.f k l0 l1 = some r) :
 Calls Try.prog 39 #[.slice A0 l0.length c0,.slice A1 l1.length c1] w fun e w' => e = .returned (.bool r) ∧ b_e w w':=by
 have HR0:=a_a.mk hr0
 have HC0:=a_a.mk hc0
 clear hr0 hc0
 have HR1:=a_a.mk hr1
 have HC1:=a_a.mk hc1
 clear hr1 hc1
 have H : (if (l0.length : Int) = (l1.length : Int) then (a_O.l0 k l0 l1 (l0.length : Int) 0) else (some false)) = some r:=h
 clear h
 by_cases c3 : (l0.length : Int) = (l1.length : Int)
 rotate_left
 ·rw [if_neg c3] at H
  have c3b0 : ((l0.length : Int) == (l1.length : Int)) = false:=beq_eq_false_iff_ne.mpr c3
  have c3b1 : ((l0.length : Int) != (l1.length : Int)) = true:=bne_iff_ne.mpr c3
  have c3b2 : (l0.length == l1.length) = false:=by first|simpa using c3|(simp at c3 ⊢; omega)
  obtain rfl:=Option.some.inj H
  go_enter Try.func39,Try.ntmps39
  go_wp2
  repeat (go_quiet (fail);try go_wp2)
  go_ret
  exact ⟨by first|rfl|(simp;done)|(simp [*];done),by repeat (first|exact b_e.refl _|apply b_e.step)⟩
 rw [if_pos c3] at H
 have c3b0 : ((l0.length : Int) == (l1.length : Int)) = true:=beq_iff_eq.mpr c3
 have c3b1 : ((l0.length : Int) != (l1.length : Int)) = false:=bne_eq_false_iff_eq.mpr c3
 have c3b2 : (l0.length == l1.length) = true:=by first|simpa using c3|(simp at c3 ⊢; omega)
 clear c3
 have H':=a_a.mk H
 clear H
 go_enter Try.func39,Try.ntmps39
 go_wp2
 repeat (go_quiet (fail);try go_wp2)
 go_loopg [13] k (fun kq v13 w' => ∃ (x13_1 : Int),v13 = .int .i64 x13_1 ∧ a_a (a_O.l0 kq l0 l1 (l0.length : Int) x13_1 = some r) ∧ a_a (kq ≤ k) ∧ b_e w w')
 case atStart => exact ⟨(0),(by first|rfl|(simp;done)|(simp [*];done)),H',⟨Nat.le_refl _⟩,by repeat (first|exact b_e.refl _|apply b_e.step)⟩
 case round =>
  clear H'
  try clear c1
  try clear p2
  try clear c3
  try clear c3b0
  try clear c3b1
  try clear c3b2
  obtain ⟨x13_1,rfl,HA,HK1,⟨m1,rfl⟩⟩:=hrel
  cases gk with
  | zero => exact absurd HA.out (by simp [a_O.l0])
  | succ k1 =>
   have H:=HA.out
   clear HA
   simp only [a_O.l0] at H
   by_cases c4 : x13_1 < (l0.length : Int)
   rotate_left
   ·rw [if_neg c4] at H
    have c4b0 : decide (x13_1 < (l0.length : Int)) = false:=decide_eq_false c4
    clear c4
    obtain rfl:=Option.some.inj H
    go_wp2
    repeat (go_quiet (fail);try go_wp2)
    go_ret
    exact ⟨by first|rfl|(simp;done)|(simp [*];done),by repeat (first|exact b_e.refl _|apply b_e.step)⟩
   rw [if_pos c4] at H
   have c4b0 : decide (x13_1 < (l0.length : Int)) = true:=decide_eq_true c4
   clear c4
   by_cases c5 : 0 ≤ x13_1
   rotate_left
   ·rw [if_neg c5] at H
    exact absurd H (by simp)
   rw [if_pos c5] at H
   have c5b0 : decide (0 ≤ x13_1) = true:=decide_eq_true c5
   clear c5
   by_cases c6 : x13_1 < (l0.length : Int)
   rotate_left
   ·rw [if_neg c6] at H
    exact absurd H (by simp)
   rw [if_pos c6] at H
   have c6b0 : decide (x13_1 < (l0.length : Int)) = true:=decide_eq_true c6
   clear c6
   by_cases c7 : x13_1 < (l1.length : Int)
   rotate_left
   ·rw [if_neg c7] at H
    exact absurd H (by simp)
   rw [if_pos c7] at H
   have c7b0 : decide (x13_1 < (l1.length : Int)) = true:=decide_eq_true c7
   clear c7
   by_cases c8 : (rd l0 x13_1) = (rd l1 x13_1)
   rotate_left
   ·rw [if_neg c8] at H
    have c8b0 : ((rd l0 x13_1) == (rd l1 x13_1)) = false:=beq_eq_false_iff_ne.mpr c8
    have c8b1 : ((rd l0 x13_1) != (rd l1 x13_1)) = true:=bne_iff_ne.mpr c8
    obtain rfl:=Option.some.inj H
    have p295 : 0 ≤ (x13_1 : Int):=of_decide_eq_true (by first|(with_reducible assumption)|assumption)
    have q295 : x13_1 < (l0.length : Int):=of_decide_eq_true (by first|(with_reducible assumption)|assumption)
    obtain ⟨ad295,e295,h_S⟩:=Kd.c_B HR0.out x13_1 p295 q295
    cases e295
    replace p295:=eq_true p295
    replace q295:=eq_true q295
    have p296 : 0 ≤ (x13_1 : Int):=of_decide_eq_true (by first|(with_reducible assumption)|assumption)
    have q296 : x13_1 < (l1.length : Int):=of_decide_eq_true (by first|(with_reducible assumption)|assumption)
    obtain ⟨ad296,e296,h_T⟩:=Kd.c_B HR1.out x13_1 p296 q296
    cases e296
    replace p296:=eq_true p296
    replace q296:=eq_true q296
    go_wp2
    repeat (go_quiet (fail);try go_wp2)
    go_ret
    exact ⟨by first|rfl|(simp;done)|(simp [*];done),by repeat (first|exact b_e.refl _|apply b_e.step)⟩
   rw [if_pos c8] at H
   have c8b0 : ((rd l0 x13_1) == (rd l1 x13_1)) = true:=beq_iff_eq.mpr c8
   have c8b1 : ((rd l0 x13_1) != (rd l1 x13_1)) = false:=bne_eq_false_iff_eq.mpr c8
   clear c8
   have H':=a_a.mk H
   clear H
   have p295 : 0 ≤ (x13_1 : Int):=of_decide_eq_true (by first|(with_reducible assumption)|assumption)
   have q295 : x13_1 < (l0.length : Int):=of_decide_eq_true (by first|(with_reducible assumption)|assumption)
   obtain ⟨ad295,e295,h_S⟩:=Kd.c_B HR0.out x13_1 p295 q295
   cases e295
   replace p295:=eq_true p295
   replace q295:=eq_true q295
   have p296 : 0 ≤ (x13_1 : Int):=of_decide_eq_true (by first|(with_reducible assumption)|assumption)
   have q296 : x13_1 < (l1.length : Int):=of_decide_eq_true (by first|(with_reducible assumption)|assumption)
   obtain ⟨ad296,e296,h_T⟩:=Kd.c_B HR1.out x13_1 p296 q296
   cases e296
   replace p296:=eq_true p296
   replace q296:=eq_true q296
   go_wp2
   repeat (go_quiet (fail);try go_wp2)
   go_roundg k1
   case measure => have:=HK1.out;omega
   case rel => exact ⟨(wrap64 (x13_1 + 1)),(by first|rfl|(simp;done)|(simp [*];done)),H',⟨by have:=HK1.out;omega⟩,by repeat (first|exact b_e.refl _|apply b_e.step)⟩
end Go.Proofs.Ytkhbffjfclepfaa.Q
end
section
namespace Go.Proofs.Ytkhbffjfclepfaa.Q
open Go.RowKit Go.Proofs.YtkhbffjfclepfaaW.PrintWords Go.Proofs.YtkhbffjfclepfaaW.PrintLast Go.Proofs.YtkhbffjfclepfaaW.PrintMore
set_option linter.unusedVariables false
set_option linter.unusedSimpArgs false
def a_1.f (k : Nat) (l0_0 : List Int) (l1_0 : List Int) : Option (Bool):=(a_O.f k l0_0 l1_0).bind fun t299 => (some t299)
theorem a_1.mono : ∀ a0 a1 k,LeO (a_1.f k a0 a1) (a_1.f (k + 1) a0 a1):=by
 intro a0 a1 k
 unfold a_1.f
 repeat' first
  | (with_reducible exact a_O.mono _ _ _)
  | (with_reducible exact LeO.refl _)
  | (with_reducible exact LeO.none _)
  | (with_reducible refine LeO.ite ?_ ?_)
  | (with_reducible refine LeO.bind ?_ (fun _ => ?_))
  | exact a_O.mono _ _ _
  | exact LeO.none _
  | refine LeO.ite ?_ ?_
  | refine LeO.bind ?_ (fun _ => ?_)
set_option maxHeartbeats 8000000 in
set_option maxRecDepth 100000 in
theorem a_1.calls (k : Nat) (A0_0 : Option Addr) (c0_0 : Nat) (l0_0 : List Int) (A1_0 : Option Addr) (c1_0 : Nat) (l1_0 : List Int) (r : Bool) (w : World) (hr0_0 : Kd.C (Kd.int .u32) w A0_0 l0_0.length l0_0) (hc0_0 : l0_0.length ≤ c0_0) (hr1_0 : Kd.C (Kd.int .u32) w A1_0 l1_0.length l1_0) (hc1_0 : l1_0.length ≤ c1_0) (h : a_1.f k l0_0 l1_0 = some r) :
 Calls Try.prog 18 #[.agg #[.slice A0_0 l0_0.length c0_0],.agg #[.slice A1_0 l1_0.length c1_0]] w fun e w' => e = .returned (.bool r) ∧ Below w.heap.size w w':=by
 have hu26:=Try.underlying26
 have c_u:=a_a.mk hr0_0
 have c_L:=a_a.mk hc0_0
 clear hr0_0 hc0_0
 have n_q:=a_a.mk hr1_0
 have n_r:=a_a.mk hc1_0
 clear hr1_0 hc1_0
 have HB:=a_a.mk (Below.refl w.heap.size w)
 have H : ((a_O.f k l0_0 l1_0).bind fun t299 => (some t299)) = some r:=h
 clear h
 replace H:=Option.bind_eq_some_iff.mp H
 obtain ⟨t299,A30,H⟩:=H
 replace H : (some t299) = some r:=H
 have A3:=a_a.mk A30
 clear A30
 obtain rfl:=Option.some.inj H
 go_enter Try.func18,Try.ntmps18
 go_wp2_with (first|((with_reducible refine a_s (N:=2) rfl ?_);refine a_r ?hg (N:=2) ?hd (cs:=#[.slice A0_0 l0_0.length c0_0]) (t:=26) ?hr ?_;(case hd => rfl);(case hg => rfl);(case hr => first|(go_simp;done)|(go_simp;rfl));intro g_h hg w4 hbox hb;have f_I:=a_a.mk (hbox);have r_w:=a_a.mk ((by rw [hg];exact (a_p (lup_ HB.out)) : w.heap.size ≤ g_h));have g_V:=a_a.mk ((by rw [hg];exact (a_p (lup_ HB.out)) : w.heap.size ≤ g_h));replace HB:=a_a.mk (a_j (lup_ HB.out) hb);clear hb hbox hg)|((with_reducible refine a_s (N:=3) rfl ?_);refine a_r ?hg (N:=3) ?hd (cs:=#[.slice A1_0 l1_0.length c1_0]) (t:=26) ?hr ?_;(case hd => rfl);(case hg => rfl);(case hr => first|(go_simp;done)|(go_simp;rfl));intro g_i hg w5 hbox hb;have i_3:=a_a.mk (hbox);have r_x:=a_a.mk ((by rw [hg];exact (a_p (by repeat (first|(with_reducible first|exact HB.out|apply a_g|apply a_d|apply a_h|refine a_b ?_ g_V.out)|exact HB.out))) : w.heap.size ≤ g_i));have n_s:=a_a.mk ((by rw [hg];exact (a_p (by repeat (first|(with_reducible first|exact HB.out|apply a_g|apply a_d|apply a_h|refine a_b ?_ g_V.out)|exact HB.out))) : w.heap.size ≤ g_i));have g_j:=a_a.mk ((by rw [hg];exact Nat.ne_of_lt (a_i (bup_ f_I.out)) : g_h ≠ g_i));have g_k:=a_a.mk ((by rw [hg];exact Nat.ne_of_gt (a_i (bup_ f_I.out)) : g_i ≠ g_h));replace f_I:=a_a.mk (a_c (bup_ f_I.out) hb);replace HB:=a_a.mk (a_j (by repeat (first|(with_reducible first|exact HB.out|apply a_g|apply a_d|apply a_h|refine a_b ?_ g_V.out)|exact HB.out)) hb);clear hb hbox hg;have hnb6:=g_j.out;have hnc6:=g_k.out;have h_r : w5.cell? ⟨g_h,0,none⟩ = some (.slice A0_0 l0_0.length c0_0):=(a_f f_I.out 0).trans rfl;have h_s:=a_e f_I.out 0;have i_Y : w5.cell? ⟨g_i,0,none⟩ = some (.slice A1_0 l1_0.length c1_0):=(a_f i_3.out 0).trans rfl;have i_Z:=a_e i_3.out 0)|((with_reducible refine a_z (f:=39) rfl ?_);refine b_h (some 9) rfl rfl Try.func39 (by kernel_rfl) rfl #[.slice A0_0 l0_0.length c0_0,.slice A1_0 l1_0.length c1_0] rfl (by (try simp only [List.map_toArray,List.map_cons,List.map_nil]);first|done|rfl|(simp only [List.length_drop,List.length_take];rfl)) ?_;(with_reducible refine (a_O.calls k _ _ l0_0 _ _ l1_0 t299 _ ?side1 ?side2 ?side3 ?side4 A3.out).mono ?_);(case side1 => repeat (first|exact (Kd.a_2 c_u.out HB.out)|(with_reducible refine Kd.b_a ?_ _)|(with_reducible refine Kd.b_c ?_ _)|(with_reducible refine Kd.b_p ?_)));(case side2 => exact c_L.out);(case side3 => repeat (first|exact (Kd.a_2 n_q.out HB.out)|(with_reducible refine Kd.b_a ?_ _)|(with_reducible refine Kd.b_c ?_ _)|(with_reducible refine Kd.b_p ?_)));(case side4 => exact n_r.out);rintro e w' ⟨rfl,⟨nd,rfl⟩⟩;refine ⟨_,rfl,?_⟩))
 go_ret
 exact ⟨by first|rfl|(simp [a_J,a_H] <;> rfl)|(simp [*, a_J,a_H] <;> rfl),by repeat (first|(with_reducible first|exact HB.out|apply a_g|apply a_d|apply a_h|refine a_b ?_ g_V.out|refine a_b ?_ n_s.out)|exact HB.out)⟩
end Go.Proofs.Ytkhbffjfclepfaa.Q
end
section
namespace Go.Proofs.Ytkhbffjfclepfaa.Q
open Go.RowKit Go.Proofs.YtkhbffjfclepfaaW.PrintWords Go.Proofs.YtkhbffjfclepfaaW.PrintLast Go.Proofs.YtkhbffjfclepfaaW.PrintMore
set_option linter.unusedVariables false
set_option linter.unusedSimpArgs false
def b_7.f (a0 : Int) : Option (Int):=if a0 < 0 then (some 0) else (if a0 ≥ 8 then (some 0) else (if 0 ≤ a0 then (some (shl .u32 1 a0)) else (none)))
set_option maxHeartbeats 8000000 in
set_option maxRecDepth 100000 in
theorem b_7.calls (a0 : Int) (r : Int) (w : World) (h : b_7.f a0 = some r) :
 Calls Try.prog 53 #[.int .i64 a0] w fun e w' => e = .returned (.int .u32 r) ∧ b_e w w':=by
 have H : (if a0 < 0 then (some 0) else (if a0 ≥ 8 then (some 0) else (if 0 ≤ a0 then (some (shl .u32 1 a0)) else (none)))) = some r:=h
 clear h
 by_cases c2 : a0 < 0
 ·rw [if_pos c2] at H
  have c2b0 : decide (a0 < 0) = true:=decide_eq_true c2
  clear c2
  obtain rfl:=Option.some.inj H
  go_enter Try.func53,Try.ntmps53
  go_wp2
  go_ret
  exact ⟨by first|rfl|(simp;done)|(simp [*];done),by repeat (first|exact b_e.refl _|apply b_e.step)⟩
 rw [if_neg c2] at H
 have c2b0 : decide (a0 < 0) = false:=decide_eq_false c2
 clear c2
 by_cases c3 : a0 ≥ 8
 ·rw [if_pos c3] at H
  have c3b0 : decide (8 ≤ a0) = true:=decide_eq_true c3
  clear c3
  obtain rfl:=Option.some.inj H
  go_enter Try.func53,Try.ntmps53
  go_wp2
  go_ret
  exact ⟨by first|rfl|(simp;done)|(simp [*];done),by repeat (first|exact b_e.refl _|apply b_e.step)⟩
 rw [if_neg c3] at H
 have c3b0 : decide (8 ≤ a0) = false:=decide_eq_false c3
 clear c3
 by_cases c4 : 0 ≤ a0
 rotate_left
 ·rw [if_neg c4] at H
  exact absurd H (by simp)
 rw [if_pos c4] at H
 have c4b0:=eq_true c4
 have c4b1 : decide (0 ≤ a0) = true:=decide_eq_true c4
 clear c4
 obtain ⟨ji5,hji5⟩ : ∃ j_ : Int,(shl .u32 1 a0) = j_:=⟨_,rfl⟩
 replace H : (some ji5) = some r:=by first|(rw [hji5] at H;exact H)|(simp only [hji5] at H ⊢; exact H)
 have hji5_ : (IntKind.u32.wrap (1 * 2 ^ min a0.toNat 32)) = ji5:=hji5
 have hji5z : a0 ≤ 32 → (IntKind.u32.wrap (1 * 2 ^ a0.toNat)) = ji5:=d_5 hji5
 have hji5u : (IntKind.u32.wrap (2 ^ min a0.toNat 32)) = ji5:=by have h_:=hji5_;rw [Int.one_mul] at h_;exact h_
 have hji5v : a0 ≤ 32 → (IntKind.u32.wrap (2 ^ a0.toNat)) = ji5:=fun hle_ => by have h_:=hji5z hle_;rw [Int.one_mul] at h_;exact h_
 obtain rfl:=Option.some.inj H
 go_enter Try.func53,Try.ntmps53
 go_wp2
 go_ret
 exact ⟨by first|rfl|(simp;done)|(simp only [← hji5] <;> (first|rfl|simp))|(simp [*];done),by repeat (first|exact b_e.refl _|apply b_e.step)⟩
end Go.Proofs.Ytkhbffjfclepfaa.Q
end
section
namespace Go.Proofs.Ytkhbffjfclepfaa.Q
open Go.RowKit Go.Proofs.YtkhbffjfclepfaaW.PrintWords Go.Proofs.YtkhbffjfclepfaaW.PrintLast Go.Proofs.YtkhbffjfclepfaaW.PrintMore
set_option linter.unusedVariables false
set_option linter.unusedSimpArgs false
def b_6.f (a0 : Int) (a1 : Int) : Option (Bool):=(b_7.f a1).bind fun t510 => (some ((Go.bits .and .u32 a0 t510) != 0))
set_option maxHeartbeats 8000000 in
set_option maxRecDepth 100000 in
theorem b_6.calls (a0 : Int) (a1 : Int) (r : Bool) (w : World) (h : b_6.f a0 a1 = some r) :
 Calls Try.prog 42 #[.int .u32 a0,.int .i64 a1] w fun e w' => e = .returned (.bool r) ∧ b_e w w':=by
 have H : ((b_7.f a1).bind fun t510 => (some ((Go.bits .and .u32 a0 t510) != 0))) = some r:=h
 clear h
 replace H:=Option.bind_eq_some_iff.mp H
 obtain ⟨t510,A30,H⟩:=H
 replace H : (some ((Go.bits .and .u32 a0 t510) != 0)) = some r:=H
 have A3:=a_a.mk A30
 clear A30
 obtain rfl:=Option.some.inj H
 go_enter Try.func42,Try.ntmps42
 go_wp2_with (first|((with_reducible refine a_z (f:=53) rfl ?_);refine b_h (some 7) rfl rfl Try.func53 (by kernel_rfl) rfl #[.int .i64 a1] rfl (by (try simp only [List.map_toArray,List.map_cons,List.map_nil]);first|done|rfl|(simp only [List.length_drop,List.length_take];rfl)) ?_;(with_reducible refine (b_7.calls a1 t510 _ A3.out).mono ?_);rintro e w' ⟨rfl,⟨nd,rfl⟩⟩;refine ⟨_,rfl,?_⟩))
 go_ret
 exact ⟨by first|rfl|(simp;done)|(simp [*];done),by repeat (first|exact b_e.refl _|apply b_e.step)⟩
end Go.Proofs.Ytkhbffjfclepfaa.Q
end
section
namespace Go.Proofs.Ytkhbffjfclepfaa.Q
open Go.RowKit Go.Proofs.YtkhbffjfclepfaaW.PrintWords Go.Proofs.YtkhbffjfclepfaaW.PrintLast Go.Proofs.YtkhbffjfclepfaaW.PrintMore
set_option linter.unusedVariables false
set_option linter.unusedSimpArgs false
set_option maxHeartbeats 2000000 in
theorem c_3.any (g : Nat) (lb : Array Value) (eg : ∀ args w,(callFunc g args).run Try.prog w = .ok (.enter g args) w) (p : Int → Bool) (A : Option Addr) (c : Nat) (xs : List Int) (w : World)
 (hr : Kd.C (Kd.int .u32) w A xs.length xs) (hlen : xs.length ≤ 35184372088832)
 (hp : ∀ W,Below w.heap.size w W → ∀ x ∈ xs,Calls Try.prog g (#[.int .u32 x] ++ lb) W fun e W' => e = .returned (.bool (p x)) ∧ Below W.heap.size W W') :
 Calls Try.prog 40 #[.slice A xs.length c,.func (.func g) #[] lb] w fun e w' => e = .returned (.int .i64 (idxOf p xs)) ∧ Below w.heap.size w w':=by
 have HP:=a_a.mk hp
 have HR:=a_a.mk hr
 clear hp hr
 go_enter Try.func40,Try.ntmps40
 go_wp2
 go_loopg [5,8] xs.length (fun gg _ s8 wr => ∃ kk : Nat,s8 = .int .i64 kk ∧ kk ≤ xs.length ∧ xs.length - kk ≤ gg ∧ a_a (Below w.heap.size w wr) ∧ a_a (∀ j (hj : j < kk) (hj2 : j < xs.length),p xs[j] = false))
 case atStart => exact ⟨0,rfl,Nat.zero_le _,by omega,⟨Below.refl _ _⟩,⟨fun j hj => absurd hj (Nat.not_lt_zero _)⟩⟩
 case round =>
  obtain ⟨kk,rfl,hkk,hg,HB,HN⟩:=hrel
  by_cases hlt : kk < xs.length
  rotate_left
  ·have hltz : ¬ (kk : Int) < (xs.length : Int):=by omega
   have : kk = xs.length:=by omega
   go_wp2
   go_ret
   refine ⟨?_,HB.out⟩
   rw [idxOf_miss (fun j hj => HN.out j (by omega) hj)];rfl
  have hltz : (kk : Int) < (xs.length : Int):=by omega
  obtain ⟨ad,rfl,hcell⟩:=Kd.c_B (Kd.a_2 HR.out HB.out) (kk : Int) (by omega) (by omega)
  have hx:=List.getElem_mem hlt
  have hrd : rd xs (kk : Int) = xs[kk]:=by unfold rd;simp [hlt]
  rw [hrd] at hcell
  simp only [Int.toNat_natCast] at hcell
  have hcall:=HP.out _ HB.out _ hx
  generalize hy : xs[kk] = y at hcell hcall hx
  have HY:=a_a.mk hy
  clear hy hx hrd
  cases hq : p y with
  | true =>
   rw [hq] at hcall
   go_wp2_with (go_at_fn g;refine hcall.mono ?_;rintro e w' ⟨rfl,hb'⟩)
   go_ret
   refine ⟨?_,HB.out.trans (hb'.mono (a_p HB.out))⟩
   rw [idxOf_hit hlt (by rw [HY.out];exact hq) (fun j hj => HN.out j hj (by omega))];rfl
  | false =>
   rw [hq] at hcall
   go_wp2_with (go_at_fn g;refine hcall.mono ?_;rintro e w' ⟨rfl,hb'⟩)
   go_roundg (xs.length - (kk + 1))
   case measure => omega
   case rel =>
    exact ⟨kk + 1,by go_num,by omega,by omega,⟨HB.out.trans (hb'.mono (a_p HB.out))⟩,⟨fun j hj hj2 => by
     by_cases e : j = kk
     ·subst e;rw [HY.out];exact hq
     exact HN.out j (by omega) hj2⟩⟩
def hasB (s c : Int) : Bool:=(b_6.f s c).getD false
theorem h_a (s c : Int) : b_6.f s c = some (hasB s c):=by
 unfold hasB
 have : ∃ b,b_6.f s c = some b:=by
  unfold b_6.f b_7.f
  (repeat' split) <;> first|exact ⟨_,rfl⟩|omega
 obtain ⟨b,hb⟩:=this
 rw [hb];rfl
set_option maxHeartbeats 2000000 in
theorem g_I.calls (g : Nat) (s a1 : Int) (w : World) (hb : w.heap[g]? = some (.cells #[.int .i64 a1] 3 (0,0))) :
 Calls Try.prog 41 (#[.int .u32 s] ++ #[.pointer (some ⟨g,0,none⟩)]) w fun e w' => e = .returned (.bool (hasB s a1)) ∧ Below w.heap.size w w':=by
 have hc:=(a_f hb 0).trans rfl
 have hf:=a_e hb 0
 clear hb
 have hH:=a_a.mk (h_a s a1)
 go_enter Try.func41,Try.ntmps41
 go_wp2_with (go_at_call 42;refine (b_6.calls s a1 _ _ hH.out).mono ?_;rintro e w' ⟨rfl,hb⟩)
 go_ret
 exact ⟨rfl,hb.below⟩
def a_U.f (l0 : List Int) (a : Int) : Option Int:=if l0.length ≤ 35184372088832 then some (idxOf (fun s => hasB s a) l0) else none
theorem a_U.calls (A0 : Option Addr) (c0 : Nat) (l0 : List Int) (g : Nat) (a : Int) (r : Int) (w : World) (hr0 : Kd.C (Kd.int .u32) w A0 l0.length l0) (hc0 : l0.length ≤ c0) (hb : w.heap[g]? = some (.cells #[.int .i64 a] 3 (0,0))) (h : a_U.f l0 a = some r) :
 Calls Try.prog 40 #[.slice A0 l0.length c0,.func (.func 41) #[] #[.pointer (some ⟨g,0,none⟩)]] w fun e w' => e = .returned (.int .i64 r) ∧ Below w.heap.size w w':=by
 unfold a_U.f at h
 split at h
 case isFalse => cases h
 case isTrue hl =>
 obtain rfl:=Option.some.inj h
 exact c_3.any 41 _ (d_j Try.func41 (by kernel_rfl) rfl) _ A0 c0 l0 w hr0 hl (fun W hW x _ => g_I.calls g x a W ((hW.block _ (a_i hb)).trans hb))
end Go.Proofs.Ytkhbffjfclepfaa.Q
end
section
namespace Go.Proofs.Ytkhbffjfclepfaa.Q
open Go.RowKit Go.Proofs.YtkhbffjfclepfaaW.PrintWords Go.Proofs.YtkhbffjfclepfaaW.PrintLast Go.Proofs.YtkhbffjfclepfaaW.PrintMore
set_option linter.unusedVariables false
set_option linter.unusedSimpArgs false
def b_t.f (k : Nat) (l0_0 : List Int) (a1 : Int) : Option (Int × Bool):=(a_U.f l0_0 a1).bind fun t305 => ((a_q.f k l0_0).bind fun t306 => (if t306 = 0 then (if t305 < 0 then (some (0,false)) else (some (t305,true))) else (some (0,false))))
theorem b_t.mono : ∀ a0 a1 k,LeO (b_t.f k a0 a1) (b_t.f (k + 1) a0 a1):=by
 intro a0 a1 k
 unfold b_t.f
 repeat' first
  | (with_reducible exact a_q.mono _ _)
  | (with_reducible exact LeO.refl _)
  | (with_reducible exact LeO.none _)
  | (with_reducible refine LeO.ite ?_ ?_)
  | (with_reducible refine LeO.bind ?_ (fun _ => ?_))
  | exact a_q.mono _ _
  | exact LeO.none _
  | refine LeO.ite ?_ ?_
  | refine LeO.bind ?_ (fun _ => ?_)
set_option maxHeartbeats 8000000 in
set_option maxRecDepth 100000 in
theorem b_t.calls (k : Nat) (A0_0 : Option Addr) (c0_0 : Nat) (l0_0 : List Int) (a1 : Int) (r1 : Int) (r2 : Bool) (w : World) (hr0_0 : Kd.C (Kd.int .u32) w A0_0 l0_0.length l0_0) (hc0_0 : l0_0.length ≤ c0_0) (h : b_t.f k l0_0 a1 = some (r1,r2)) :
 Calls Try.prog 20 #[.agg #[.slice A0_0 l0_0.length c0_0],.int .i64 a1] w fun e w' => e = .returned (.tuple #[.int .i64 r1,.bool r2]) ∧ Below w.heap.size w w':=by
 have hu26:=Try.underlying26
 have c_u:=a_a.mk hr0_0
 have c_L:=a_a.mk hc0_0
 clear hr0_0 hc0_0
 have HB:=a_a.mk (Below.refl w.heap.size w)
 have H : ((a_U.f l0_0 a1).bind fun t305 => ((a_q.f k l0_0).bind fun t306 => (if t306 = 0 then (if t305 < 0 then (some (0,false)) else (some (t305,true))) else (some (0,false))))) = some (r1,r2):=h
 clear h
 replace H:=Option.bind_eq_some_iff.mp H
 obtain ⟨t305,A30,H⟩:=H
 replace H : ((a_q.f k l0_0).bind fun t306 => (if t306 = 0 then (if t305 < 0 then (some (0,false)) else (some (t305,true))) else (some (0,false)))) = some (r1,r2):=H
 have A3:=a_a.mk A30
 clear A30
 replace H:=Option.bind_eq_some_iff.mp H
 obtain ⟨t306,A40,H⟩:=H
 replace H : (if t306 = 0 then (if t305 < 0 then (some (0,false)) else (some (t305,true))) else (some (0,false))) = some (r1,r2):=H
 have A4:=a_a.mk A40
 clear A40
 by_cases c5 : t306 = 0
 rotate_left
 ·rw [if_neg c5] at H
  have c5b0 : (t306 == 0) = false:=beq_eq_false_iff_ne.mpr c5
  have c5b1 : (t306 != 0) = true:=bne_iff_ne.mpr c5
  simp only [Option.some.injEq,Prod.mk.injEq] at H
  obtain ⟨rfl,rfl⟩:=H
  go_enter Try.func20,Try.ntmps20
  go_wp2_with (first|((with_reducible refine a_s (N:=2) rfl ?_);refine a_r ?hg (N:=2) ?hd (cs:=#[.slice A0_0 l0_0.length c0_0]) (t:=26) ?hr ?_;(case hd => rfl);(case hg => rfl);(case hr => first|(go_simp;done)|(go_simp;rfl));intro c_O hg w21 hbox hb;have b_O:=a_a.mk (hbox);have i_4:=a_a.mk ((by rw [hg];exact (a_p (lup_ HB.out)) : w.heap.size ≤ c_O));have c_P:=a_a.mk ((by rw [hg];exact (a_p (lup_ HB.out)) : w.heap.size ≤ c_O));replace HB:=a_a.mk (a_j (lup_ HB.out) hb);clear hb hbox hg)|((with_reducible refine a_s (N:=3) rfl ?_);refine a_r ?hg (N:=3) ?hd (cs:=#[.int .i64 a1]) (t:=3) ?hr ?_;(case hd => rfl);(case hg => rfl);(case hr => first|(go_simp;done)|(go_simp;rfl));intro c_Q hg w22 hbox hb;have c_6:=a_a.mk (hbox);have i_5:=a_a.mk ((by rw [hg];exact (a_p (by repeat (first|(with_reducible first|exact HB.out|apply a_g|apply a_d|apply a_h|refine a_b ?_ c_P.out)|exact HB.out))) : w.heap.size ≤ c_Q));have d_9:=a_a.mk ((by rw [hg];exact (a_p (by repeat (first|(with_reducible first|exact HB.out|apply a_g|apply a_d|apply a_h|refine a_b ?_ c_P.out)|exact HB.out))) : w.heap.size ≤ c_Q));have c_7:=a_a.mk ((by rw [hg];exact Nat.ne_of_lt (a_i (bup_ b_O.out)) : c_O ≠ c_Q));have c_8:=a_a.mk ((by rw [hg];exact Nat.ne_of_gt (a_i (bup_ b_O.out)) : c_Q ≠ c_O));replace b_O:=a_a.mk (a_c (bup_ b_O.out) hb);replace HB:=a_a.mk (a_j (by repeat (first|(with_reducible first|exact HB.out|apply a_g|apply a_d|apply a_h|refine a_b ?_ c_P.out)|exact HB.out)) hb);clear hb hbox hg;have r_y:=c_7.out;have r_z:=c_8.out;have n_t : w22.cell? ⟨c_O,0,none⟩ = some (.slice A0_0 l0_0.length c0_0):=(a_f b_O.out 0).trans rfl;have n_u:=a_e b_O.out 0)|((with_reducible refine a_z (f:=40) rfl ?_);refine b_h (some 10) rfl rfl Try.func40 (by kernel_rfl) rfl #[.slice A0_0 l0_0.length c0_0,.func (.func 41) #[] #[.pointer (some ⟨c_Q,0,none⟩)]] rfl (by (try simp only [List.map_toArray,List.map_cons,List.map_nil]);first|done|rfl|(simp only [List.length_drop,List.length_take];rfl)) ?_;(with_reducible refine (a_U.calls _ _ l0_0 c_Q a1 t305 _ ?side1 ?side2 ?side3 A3.out).mono ?_);(case side1 => repeat (first|exact (Kd.a_2 c_u.out HB.out)|(with_reducible refine Kd.b_a ?_ _)|(with_reducible refine Kd.b_c ?_ _)|(with_reducible refine Kd.b_p ?_)));(case side2 => exact c_L.out);(case side3 => exact (bup_ c_6.out));rintro e w25 ⟨rfl,hb⟩;refine ⟨_,rfl,?_⟩;replace b_O:=a_a.mk (a_c (bup_ b_O.out) hb);replace c_6:=a_a.mk (a_c (bup_ c_6.out) hb);replace HB:=a_a.mk (a_j (by repeat (first|(with_reducible first|exact HB.out|apply a_g|apply a_d|apply a_h|refine a_b ?_ c_P.out|refine a_b ?_ d_9.out)|exact HB.out)) hb);(try clear hb);(try clear hb2);(try clear hk);(try clear hi);have n_v : w25.cell? ⟨c_O,0,none⟩ = some (.slice A0_0 l0_0.length c0_0):=(a_f b_O.out 0).trans rfl;have n_w:=a_e b_O.out 0)|((with_reducible refine a_z (f:=17) rfl ?_);refine b_h (some 12) rfl rfl Try.func17 (by kernel_rfl) rfl #[.agg #[.slice A0_0 l0_0.length c0_0]] rfl (by (try simp only [List.map_toArray,List.map_cons,List.map_nil]);first|done|rfl|(simp only [List.length_drop,List.length_take];rfl)) ?_;(with_reducible refine (a_q.calls k _ _ l0_0 t306 _ ?side1 ?side2 A4.out).mono ?_);(case side1 => repeat (first|exact (Kd.a_2 c_u.out HB.out)|(with_reducible refine Kd.b_a ?_ _)|(with_reducible refine Kd.b_c ?_ _)|(with_reducible refine Kd.b_p ?_)));(case side2 => exact c_L.out);rintro e w27 ⟨rfl,hb⟩;refine ⟨_,rfl,?_⟩;replace b_O:=a_a.mk (a_c (bup_ b_O.out) hb);replace c_6:=a_a.mk (a_c (bup_ c_6.out) hb);replace HB:=a_a.mk (a_j (by repeat (first|(with_reducible first|exact HB.out|apply a_g|apply a_d|apply a_h|refine a_b ?_ c_P.out|refine a_b ?_ d_9.out)|exact HB.out)) hb);(try clear hb);(try clear hb2);(try clear hk);(try clear hi)))
  go_ret2
  exact ⟨by first|rfl|(simp [a_J,a_H] <;> rfl)|(simp [*, a_J,a_H] <;> rfl),by repeat (first|(with_reducible first|exact HB.out|apply a_g|apply a_d|apply a_h|refine a_b ?_ c_P.out|refine a_b ?_ d_9.out)|exact HB.out)⟩
 rw [if_pos c5] at H
 have c5b0 : (t306 == 0) = true:=beq_iff_eq.mpr c5
 have c5b1 : (t306 != 0) = false:=bne_eq_false_iff_eq.mpr c5
 clear c5
 by_cases c6 : t305 < 0
 ·rw [if_pos c6] at H
  have c6b0 : decide (t305 < 0) = true:=decide_eq_true c6
  clear c6
  simp only [Option.some.injEq,Prod.mk.injEq] at H
  obtain ⟨rfl,rfl⟩:=H
  go_enter Try.func20,Try.ntmps20
  go_wp2_with (first|((with_reducible refine a_s (N:=2) rfl ?_);refine a_r ?hg (N:=2) ?hd (cs:=#[.slice A0_0 l0_0.length c0_0]) (t:=26) ?hr ?_;(case hd => rfl);(case hg => rfl);(case hr => first|(go_simp;done)|(go_simp;rfl));intro c_O hg w7 hbox hb;have b_O:=a_a.mk (hbox);have i_4:=a_a.mk ((by rw [hg];exact (a_p (lup_ HB.out)) : w.heap.size ≤ c_O));have c_P:=a_a.mk ((by rw [hg];exact (a_p (lup_ HB.out)) : w.heap.size ≤ c_O));replace HB:=a_a.mk (a_j (lup_ HB.out) hb);clear hb hbox hg)|((with_reducible refine a_s (N:=3) rfl ?_);refine a_r ?hg (N:=3) ?hd (cs:=#[.int .i64 a1]) (t:=3) ?hr ?_;(case hd => rfl);(case hg => rfl);(case hr => first|(go_simp;done)|(go_simp;rfl));intro c_Q hg w8 hbox hb;have c_6:=a_a.mk (hbox);have i_5:=a_a.mk ((by rw [hg];exact (a_p (by repeat (first|(with_reducible first|exact HB.out|apply a_g|apply a_d|apply a_h|refine a_b ?_ c_P.out)|exact HB.out))) : w.heap.size ≤ c_Q));have d_9:=a_a.mk ((by rw [hg];exact (a_p (by repeat (first|(with_reducible first|exact HB.out|apply a_g|apply a_d|apply a_h|refine a_b ?_ c_P.out)|exact HB.out))) : w.heap.size ≤ c_Q));have c_7:=a_a.mk ((by rw [hg];exact Nat.ne_of_lt (a_i (bup_ b_O.out)) : c_O ≠ c_Q));have c_8:=a_a.mk ((by rw [hg];exact Nat.ne_of_gt (a_i (bup_ b_O.out)) : c_Q ≠ c_O));replace b_O:=a_a.mk (a_c (bup_ b_O.out) hb);replace HB:=a_a.mk (a_j (by repeat (first|(with_reducible first|exact HB.out|apply a_g|apply a_d|apply a_h|refine a_b ?_ c_P.out)|exact HB.out)) hb);clear hb hbox hg;have hnb9:=c_7.out;have hnc9:=c_8.out;have h_U : w8.cell? ⟨c_O,0,none⟩ = some (.slice A0_0 l0_0.length c0_0):=(a_f b_O.out 0).trans rfl;have h_V:=a_e b_O.out 0)|((with_reducible refine a_z (f:=40) rfl ?_);refine b_h (some 10) rfl rfl Try.func40 (by kernel_rfl) rfl #[.slice A0_0 l0_0.length c0_0,.func (.func 41) #[] #[.pointer (some ⟨c_Q,0,none⟩)]] rfl (by (try simp only [List.map_toArray,List.map_cons,List.map_nil]);first|done|rfl|(simp only [List.length_drop,List.length_take];rfl)) ?_;(with_reducible refine (a_U.calls _ _ l0_0 c_Q a1 t305 _ ?side1 ?side2 ?side3 A3.out).mono ?_);(case side1 => repeat (first|exact (Kd.a_2 c_u.out HB.out)|(with_reducible refine Kd.b_a ?_ _)|(with_reducible refine Kd.b_c ?_ _)|(with_reducible refine Kd.b_p ?_)));(case side2 => exact c_L.out);(case side3 => exact (bup_ c_6.out));rintro e w11 ⟨rfl,hb⟩;refine ⟨_,rfl,?_⟩;replace b_O:=a_a.mk (a_c (bup_ b_O.out) hb);replace c_6:=a_a.mk (a_c (bup_ c_6.out) hb);replace HB:=a_a.mk (a_j (by repeat (first|(with_reducible first|exact HB.out|apply a_g|apply a_d|apply a_h|refine a_b ?_ c_P.out|refine a_b ?_ d_9.out)|exact HB.out)) hb);(try clear hb);(try clear hb2);(try clear hk);(try clear hi);have h_W : w11.cell? ⟨c_O,0,none⟩ = some (.slice A0_0 l0_0.length c0_0):=(a_f b_O.out 0).trans rfl;have h_X:=a_e b_O.out 0)|((with_reducible refine a_z (f:=17) rfl ?_);refine b_h (some 12) rfl rfl Try.func17 (by kernel_rfl) rfl #[.agg #[.slice A0_0 l0_0.length c0_0]] rfl (by (try simp only [List.map_toArray,List.map_cons,List.map_nil]);first|done|rfl|(simp only [List.length_drop,List.length_take];rfl)) ?_;(with_reducible refine (a_q.calls k _ _ l0_0 t306 _ ?side1 ?side2 A4.out).mono ?_);(case side1 => repeat (first|exact (Kd.a_2 c_u.out HB.out)|(with_reducible refine Kd.b_a ?_ _)|(with_reducible refine Kd.b_c ?_ _)|(with_reducible refine Kd.b_p ?_)));(case side2 => exact c_L.out);rintro e w13 ⟨rfl,hb⟩;refine ⟨_,rfl,?_⟩;replace b_O:=a_a.mk (a_c (bup_ b_O.out) hb);replace c_6:=a_a.mk (a_c (bup_ c_6.out) hb);replace HB:=a_a.mk (a_j (by repeat (first|(with_reducible first|exact HB.out|apply a_g|apply a_d|apply a_h|refine a_b ?_ c_P.out|refine a_b ?_ d_9.out)|exact HB.out)) hb);(try clear hb);(try clear hb2);(try clear hk);(try clear hi)))
  go_ret2
  exact ⟨by first|rfl|(simp [a_J,a_H] <;> rfl)|(simp [*, a_J,a_H] <;> rfl),by repeat (first|(with_reducible first|exact HB.out|apply a_g|apply a_d|apply a_h|refine a_b ?_ c_P.out|refine a_b ?_ d_9.out)|exact HB.out)⟩
 rw [if_neg c6] at H
 have c6b0 : decide (t305 < 0) = false:=decide_eq_false c6
 clear c6
 simp only [Option.some.injEq,Prod.mk.injEq] at H
 obtain ⟨rfl,rfl⟩:=H
 go_enter Try.func20,Try.ntmps20
 go_wp2_with (first|((with_reducible refine a_s (N:=2) rfl ?_);refine a_r ?hg (N:=2) ?hd (cs:=#[.slice A0_0 l0_0.length c0_0]) (t:=26) ?hr ?_;(case hd => rfl);(case hg => rfl);(case hr => first|(go_simp;done)|(go_simp;rfl));intro c_O hg w14 hbox hb;have b_O:=a_a.mk (hbox);have i_4:=a_a.mk ((by rw [hg];exact (a_p (lup_ HB.out)) : w.heap.size ≤ c_O));have c_P:=a_a.mk ((by rw [hg];exact (a_p (lup_ HB.out)) : w.heap.size ≤ c_O));replace HB:=a_a.mk (a_j (lup_ HB.out) hb);clear hb hbox hg)|((with_reducible refine a_s (N:=3) rfl ?_);refine a_r ?hg (N:=3) ?hd (cs:=#[.int .i64 a1]) (t:=3) ?hr ?_;(case hd => rfl);(case hg => rfl);(case hr => first|(go_simp;done)|(go_simp;rfl));intro c_Q hg w15 hbox hb;have c_6:=a_a.mk (hbox);have i_5:=a_a.mk ((by rw [hg];exact (a_p (by repeat (first|(with_reducible first|exact HB.out|apply a_g|apply a_d|apply a_h|refine a_b ?_ c_P.out)|exact HB.out))) : w.heap.size ≤ c_Q));have d_9:=a_a.mk ((by rw [hg];exact (a_p (by repeat (first|(with_reducible first|exact HB.out|apply a_g|apply a_d|apply a_h|refine a_b ?_ c_P.out)|exact HB.out))) : w.heap.size ≤ c_Q));have c_7:=a_a.mk ((by rw [hg];exact Nat.ne_of_lt (a_i (bup_ b_O.out)) : c_O ≠ c_Q));have c_8:=a_a.mk ((by rw [hg];exact Nat.ne_of_gt (a_i (bup_ b_O.out)) : c_Q ≠ c_O));replace b_O:=a_a.mk (a_c (bup_ b_O.out) hb);replace HB:=a_a.mk (a_j (by repeat (first|(with_reducible first|exact HB.out|apply a_g|apply a_d|apply a_h|refine a_b ?_ c_P.out)|exact HB.out)) hb);clear hb hbox hg;have r_A:=c_7.out;have r_B:=c_8.out;have h_Y : w15.cell? ⟨c_O,0,none⟩ = some (.slice A0_0 l0_0.length c0_0):=(a_f b_O.out 0).trans rfl;have h_Z:=a_e b_O.out 0)|((with_reducible refine a_z (f:=40) rfl ?_);refine b_h (some 10) rfl rfl Try.func40 (by kernel_rfl) rfl #[.slice A0_0 l0_0.length c0_0,.func (.func 41) #[] #[.pointer (some ⟨c_Q,0,none⟩)]] rfl (by (try simp only [List.map_toArray,List.map_cons,List.map_nil]);first|done|rfl|(simp only [List.length_drop,List.length_take];rfl)) ?_;(with_reducible refine (a_U.calls _ _ l0_0 c_Q a1 t305 _ ?side1 ?side2 ?side3 A3.out).mono ?_);(case side1 => repeat (first|exact (Kd.a_2 c_u.out HB.out)|(with_reducible refine Kd.b_a ?_ _)|(with_reducible refine Kd.b_c ?_ _)|(with_reducible refine Kd.b_p ?_)));(case side2 => exact c_L.out);(case side3 => exact (bup_ c_6.out));rintro e w18 ⟨rfl,hb⟩;refine ⟨_,rfl,?_⟩;replace b_O:=a_a.mk (a_c (bup_ b_O.out) hb);replace c_6:=a_a.mk (a_c (bup_ c_6.out) hb);replace HB:=a_a.mk (a_j (by repeat (first|(with_reducible first|exact HB.out|apply a_g|apply a_d|apply a_h|refine a_b ?_ c_P.out|refine a_b ?_ d_9.out)|exact HB.out)) hb);(try clear hb);(try clear hb2);(try clear hk);(try clear hi);have h_0 : w18.cell? ⟨c_O,0,none⟩ = some (.slice A0_0 l0_0.length c0_0):=(a_f b_O.out 0).trans rfl;have i_a:=a_e b_O.out 0)|((with_reducible refine a_z (f:=17) rfl ?_);refine b_h (some 12) rfl rfl Try.func17 (by kernel_rfl) rfl #[.agg #[.slice A0_0 l0_0.length c0_0]] rfl (by (try simp only [List.map_toArray,List.map_cons,List.map_nil]);first|done|rfl|(simp only [List.length_drop,List.length_take];rfl)) ?_;(with_reducible refine (a_q.calls k _ _ l0_0 t306 _ ?side1 ?side2 A4.out).mono ?_);(case side1 => repeat (first|exact (Kd.a_2 c_u.out HB.out)|(with_reducible refine Kd.b_a ?_ _)|(with_reducible refine Kd.b_c ?_ _)|(with_reducible refine Kd.b_p ?_)));(case side2 => exact c_L.out);rintro e w20 ⟨rfl,hb⟩;refine ⟨_,rfl,?_⟩;replace b_O:=a_a.mk (a_c (bup_ b_O.out) hb);replace c_6:=a_a.mk (a_c (bup_ c_6.out) hb);replace HB:=a_a.mk (a_j (by repeat (first|(with_reducible first|exact HB.out|apply a_g|apply a_d|apply a_h|refine a_b ?_ c_P.out|refine a_b ?_ d_9.out)|exact HB.out)) hb);(try clear hb);(try clear hb2);(try clear hk);(try clear hi)))
 go_ret2
 exact ⟨by first|rfl|(simp [a_J,a_H] <;> rfl)|(simp [*, a_J,a_H] <;> rfl),by repeat (first|(with_reducible first|exact HB.out|apply a_g|apply a_d|apply a_h|refine a_b ?_ c_P.out|refine a_b ?_ d_9.out)|exact HB.out)⟩
end Go.Proofs.Ytkhbffjfclepfaa.Q
end
section
namespace Go.Proofs.Ytkhbffjfclepfaa.Q
open Go.RowKit Go.Proofs.YtkhbffjfclepfaaW.PrintWords Go.Proofs.YtkhbffjfclepfaaW.PrintLast Go.Proofs.YtkhbffjfclepfaaW.PrintMore
set_option linter.unusedVariables false
set_option linter.unusedSimpArgs false
set_option maxHeartbeats 2000000 in
theorem d_d.any (g : Nat) (lb : Array Value) (eg : ∀ args w,(callFunc g args).run Try.prog w = .ok (.enter g args) w) (p : Int → Bool) (A : Option Addr) (c : Nat) (xs : List Int) (w : World)
 (hr : Kd.C (Kd.int .i64) w A xs.length xs) (hlen : xs.length ≤ 35184372088832)
 (hp : ∀ W,Below w.heap.size w W → ∀ x ∈ xs,Calls Try.prog g (#[.int .i64 x] ++ lb) W fun e W' => e = .returned (.bool (p x)) ∧ Below W.heap.size W W') :
 Calls Try.prog 59 #[.slice A xs.length c,.func (.func g) #[] lb] w fun e w' => e = .returned (.int .i64 (idxOf p xs)) ∧ Below w.heap.size w w':=by
 have HP:=a_a.mk hp
 have HR:=a_a.mk hr
 clear hp hr
 go_enter Try.func59,Try.ntmps59
 go_wp2
 go_loopg [5,8] xs.length (fun gg _ s8 wr => ∃ kk : Nat,s8 = .int .i64 kk ∧ kk ≤ xs.length ∧ xs.length - kk ≤ gg ∧ a_a (Below w.heap.size w wr) ∧ a_a (∀ j (hj : j < kk) (hj2 : j < xs.length),p xs[j] = false))
 case atStart => exact ⟨0,rfl,Nat.zero_le _,by omega,⟨Below.refl _ _⟩,⟨fun j hj => absurd hj (Nat.not_lt_zero _)⟩⟩
 case round =>
  obtain ⟨kk,rfl,hkk,hg,HB,HN⟩:=hrel
  by_cases hlt : kk < xs.length
  rotate_left
  ·have hltz : ¬ (kk : Int) < (xs.length : Int):=by omega
   have : kk = xs.length:=by omega
   go_wp2
   go_ret
   refine ⟨?_,HB.out⟩
   rw [idxOf_miss (fun j hj => HN.out j (by omega) hj)];rfl
  have hltz : (kk : Int) < (xs.length : Int):=by omega
  obtain ⟨ad,rfl,hcell⟩:=Kd.c_B (Kd.a_2 HR.out HB.out) (kk : Int) (by omega) (by omega)
  have hx:=List.getElem_mem hlt
  have hrd : rd xs (kk : Int) = xs[kk]:=by unfold rd;simp [hlt]
  rw [hrd] at hcell
  simp only [Int.toNat_natCast] at hcell
  have hcall:=HP.out _ HB.out _ hx
  generalize hy : xs[kk] = y at hcell hcall hx
  have HY:=a_a.mk hy
  clear hy hx hrd
  cases hq : p y with
  | true =>
   rw [hq] at hcall
   go_wp2_with (go_at_fn g;refine hcall.mono ?_;rintro e w' ⟨rfl,hb'⟩)
   go_ret
   refine ⟨?_,HB.out.trans (hb'.mono (a_p HB.out))⟩
   rw [idxOf_hit hlt (by rw [HY.out];exact hq) (fun j hj => HN.out j hj (by omega))];rfl
  | false =>
   rw [hq] at hcall
   go_wp2_with (go_at_fn g;refine hcall.mono ?_;rintro e w' ⟨rfl,hb'⟩)
   go_roundg (xs.length - (kk + 1))
   case measure => omega
   case rel =>
    exact ⟨kk + 1,by go_num,by omega,by omega,⟨HB.out.trans (hb'.mono (a_p HB.out))⟩,⟨fun j hj hj2 => by
     by_cases e : j = kk
     ·subst e;rw [HY.out];exact hq
     exact HN.out j (by omega) hj2⟩⟩
end Go.Proofs.Ytkhbffjfclepfaa.Q
end
section
namespace Go.Proofs.Ytkhbffjfclepfaa.Q
open Go.RowKit Go.Proofs.YtkhbffjfclepfaaW.PrintWords Go.Proofs.YtkhbffjfclepfaaW.PrintLast Go.Proofs.YtkhbffjfclepfaaW.PrintMore
set_option linter.unusedVariables false
set_option linter.unusedSimpArgs false
set_option maxHeartbeats 2000000 in
theorem c_W.any (g : Nat) (lb : Array Value) (eg : ∀ args w,(callFunc g args).run Try.prog w = .ok (.enter g args) w) (p : Int → Bool) (A : Option Addr) (c : Nat) (xs : List Int) (w : World)
 (hr : Kd.C (Kd.int .i64) w A xs.length xs) (hlen : xs.length ≤ 35184372088832)
 (hp : ∀ W,Below w.heap.size w W → ∀ x ∈ xs,Calls Try.prog g (#[.int .i64 x] ++ lb) W fun e W' => e = .returned (.bool (p x)) ∧ Below W.heap.size W W') :
 Calls Try.prog 55 #[.slice A xs.length c,.func (.func g) #[] lb] w fun e w' => e = .returned (.bool (xs.any p)) ∧ Below w.heap.size w w':=by
 rw [← e_U]
 have HP:=a_a.mk hp
 have HR:=a_a.mk hr
 clear hp hr
 go_enter Try.func55,Try.ntmps55
 go_wp2_with (go_at_call 59;refine (d_d.any g lb eg p A c xs _ HR.out hlen HP.out).mono ?_;rintro e w' ⟨rfl,hb⟩)
 go_ret
 exact ⟨rfl,hb⟩
end Go.Proofs.Ytkhbffjfclepfaa.Q
end
section
namespace Go.Proofs.Ytkhbffjfclepfaa.Q
open Go.RowKit Go.Proofs.YtkhbffjfclepfaaW.PrintWords Go.Proofs.YtkhbffjfclepfaaW.PrintLast Go.Proofs.YtkhbffjfclepfaaW.PrintMore
set_option linter.unusedVariables false
set_option linter.unusedSimpArgs false
set_option maxHeartbeats 2000000 in
theorem f_E.calls (g : Nat) (A : Option Addr) (m c : Nat) (n : Int) (w : World) (hb : w.heap[g]? = some (.cells #[.slice A m c] 26 (0,0))) :
 Calls Try.prog 56 (#[.int .i64 n] ++ #[.pointer (some ⟨g,0,none⟩)]) w fun e w' => e = .returned (.bool (decide (n < 0) || decide ((m : Int) ≤ n))) ∧ Below w.heap.size w w':=by
 have hc:=(a_f hb 0).trans rfl
 have hf:=a_e hb 0
 clear hb
 by_cases h : n < 0
 ·have h1 : decide (n < 0) = true:=decide_eq_true h
  go_enter Try.func56,Try.ntmps56
  go_wp2
  go_ret
  exact ⟨by simp [h],Below.refl _ _⟩
 have h1 : decide (n < 0) = false:=decide_eq_false h
 go_enter Try.func56,Try.ntmps56
 go_wp2
 go_ret
 exact ⟨by simp [h],Below.refl _ _⟩
def a_P.f (l0_0 : List Int) (l1 : List Int) : Option Bool :=
 if l1.length ≤ 35184372088832 then some (!(l1.any fun n => decide (n < 0) || decide ((l0_0.length : Int) ≤ n))) else none
set_option maxHeartbeats 2000000 in
theorem a_P.calls (A0_0 : Option Addr) (c0_0 : Nat) (l0_0 : List Int) (A1 : Option Addr) (c1 : Nat) (l1 : List Int) (r : Bool) (w : World) (hr0_0 : Kd.C (Kd.int .u32) w A0_0 l0_0.length l0_0) (hc0_0 : l0_0.length ≤ c0_0)
 (hr1 : Kd.C (Kd.int .i64) w A1 l1.length l1) (hc1 : l1.length ≤ c1) (h : a_P.f l0_0 l1 = some r) :
 Calls Try.prog 44 #[.agg #[.slice A0_0 l0_0.length c0_0],.slice A1 l1.length c1] w fun e w' => e = .returned (.bool r) ∧ Below w.heap.size w w':=by
 unfold a_P.f at h
 split at h
 case isFalse => cases h
 case isTrue hl =>
 obtain rfl:=Option.some.inj h
 have eg : ∀ args w,(callFunc 56 args).run Try.prog w = .ok (.enter 56 args) w:=d_j Try.func56 (by kernel_rfl) rfl
 have HR:=a_a.mk hr1
 clear h hr0_0 hr1 hc1
 have HP:=a_a.mk (fun W (hW : Below (w.alloc (.cells #[.slice A0_0 l0_0.length c0_0] 26)).heap.size (w.alloc (.cells #[.slice A0_0 l0_0.length c0_0] 26)) W) x (_ : x ∈ l1) => f_E.calls w.heap.size A0_0 l0_0.length c0_0 x W ((hW.block w.heap.size (by simp)).trans (f_2 _ _)))
 go_enter Try.func44,Try.ntmps44
 go_wp2_with (go_at_call 55;refine (c_W.any 56 _ eg (fun n => decide (n < 0) || decide ((l0_0.length : Int) ≤ n)) A1 c1 l1 _ (Kd.b_a HR.out _) hl HP.out).mono ?_;rintro e w' ⟨rfl,hb⟩)
 go_ret
 exact ⟨rfl,((Below.refl _ _).alloc (Nat.le_refl _) _).trans (hb.mono (by simp))⟩
end Go.Proofs.Ytkhbffjfclepfaa.Q
end
section
namespace Go.Proofs.Ytkhbffjfclepfaa.Q
open Go.RowKit Go.Proofs.YtkhbffjfclepfaaW.PrintWords Go.Proofs.YtkhbffjfclepfaaW.PrintLast Go.Proofs.YtkhbffjfclepfaaW.PrintMore
set_option linter.unusedVariables false
set_option linter.unusedSimpArgs false
def b_s.f (k : Nat) (l0_0 : List Int) (a1 : Int) : Option (Int):=(a_q.f k l0_0).bind fun t308 => (if t308 = 0 then ((a_P.f l0_0 (([a1] : List Int))).bind fun t312 => (if t312 = true then (if 0 ≤ a1 then (if a1 < (l0_0.length : Int) then (some (rd l0_0 a1)) else (none)) else (none)) else (some 0))) else (some 0))
theorem b_s.mono : ∀ a0 a1 k,LeO (b_s.f k a0 a1) (b_s.f (k + 1) a0 a1):=by
 intro a0 a1 k
 unfold b_s.f
 repeat' first
  | (with_reducible exact a_q.mono _ _)
  | (with_reducible exact LeO.refl _)
  | (with_reducible exact LeO.none _)
  | (with_reducible refine LeO.ite ?_ ?_)
  | (with_reducible refine LeO.bind ?_ (fun _ => ?_))
  | exact a_q.mono _ _
  | exact LeO.none _
  | refine LeO.ite ?_ ?_
  | refine LeO.bind ?_ (fun _ => ?_)
set_option maxHeartbeats 8000000 in
set_option maxRecDepth 100000 in
theorem b_s.calls (k : Nat) (A0_0 : Option Addr) (c0_0 : Nat) (l0_0 : List Int) (a1 : Int) (r : Int) (w : World) (hr0_0 : Kd.C (Kd.int .u32) w A0_0 l0_0.length l0_0) (hc0_0 : l0_0.length ≤ c0_0) (h : b_s.f k l0_0 a1 = some r) :
 Calls Try.prog 23 #[.agg #[.slice A0_0 l0_0.length c0_0],.int .i64 a1] w fun e w' => e = .returned (.int .u32 r) ∧ Below w.heap.size w w':=by
 have hu26:=Try.underlying26
 have c_u:=a_a.mk hr0_0
 have c_L:=a_a.mk hc0_0
 clear hr0_0 hc0_0
 have HB:=a_a.mk (Below.refl w.heap.size w)
 have H : ((a_q.f k l0_0).bind fun t308 => (if t308 = 0 then ((a_P.f l0_0 (([a1] : List Int))).bind fun t312 => (if t312 = true then (if 0 ≤ a1 then (if a1 < (l0_0.length : Int) then (some (rd l0_0 a1)) else (none)) else (none)) else (some 0))) else (some 0))) = some r:=h
 clear h
 replace H:=Option.bind_eq_some_iff.mp H
 obtain ⟨t308,A30,H⟩:=H
 replace H : (if t308 = 0 then ((a_P.f l0_0 (([a1] : List Int))).bind fun t312 => (if t312 = true then (if 0 ≤ a1 then (if a1 < (l0_0.length : Int) then (some (rd l0_0 a1)) else (none)) else (none)) else (some 0))) else (some 0)) = some r:=H
 have A3:=a_a.mk A30
 clear A30
 by_cases c4 : t308 = 0
 rotate_left
 ·rw [if_neg c4] at H
  have c4b0 : (t308 == 0) = false:=beq_eq_false_iff_ne.mpr c4
  have c4b1 : (t308 != 0) = true:=bne_iff_ne.mpr c4
  obtain rfl:=Option.some.inj H
  go_enter Try.func23,Try.ntmps23
  go_wp2_with (first|((with_reducible refine a_s (N:=2) rfl ?_);(try (refine b_P (by rfl) ?_;dsimp only));refine a_r ?hg (N:=2) ?hd (cs:=#[.slice A0_0 l0_0.length c0_0]) (t:=26) ?hr ?_;(case hd => rfl);(case hg => rfl);(case hr => first|(go_simp;done)|(go_simp;rfl));intro d_A hg w26 hbox hb;have c_r:=a_a.mk (hbox);have i_6:=a_a.mk ((by rw [hg];exact (a_p (lup_ HB.out)) : w.heap.size ≤ d_A));have d_B:=a_a.mk ((by rw [hg];exact (a_p (lup_ HB.out)) : w.heap.size ≤ d_A));replace HB:=a_a.mk (a_j (lup_ HB.out) hb);clear hb hbox hg;have i_b : w26.cell? ⟨d_A,0,none⟩ = some (.slice A0_0 l0_0.length c0_0):=(a_f c_r.out 0).trans rfl;have i_d:=a_e c_r.out 0)|((with_reducible refine a_z (f:=17) rfl ?_);refine b_h (some 6) rfl rfl Try.func17 (by kernel_rfl) rfl #[.agg #[.slice A0_0 l0_0.length c0_0]] rfl (by (try simp only [List.map_toArray,List.map_cons,List.map_nil]);first|done|rfl|(simp only [List.length_drop,List.length_take];rfl)) ?_;(with_reducible refine (a_q.calls k _ _ l0_0 t308 _ ?side1 ?side2 A3.out).mono ?_);(case side1 => repeat (first|exact (Kd.a_2 c_u.out HB.out)|(with_reducible refine Kd.b_a ?_ _)|(with_reducible refine Kd.b_c ?_ _)|(with_reducible refine Kd.b_p ?_)));(case side2 => exact c_L.out);rintro e w28 ⟨rfl,hb⟩;refine ⟨_,rfl,?_⟩;replace c_r:=a_a.mk (a_c (bup_ c_r.out) hb);replace HB:=a_a.mk (a_j (by repeat (first|(with_reducible first|exact HB.out|apply a_g|apply a_d|apply a_h|refine a_b ?_ d_B.out)|exact HB.out)) hb);(try clear hb);(try clear hb2);(try clear hk);(try clear hi)))
  go_ret
  exact ⟨by first|rfl|(simp [a_J,a_H] <;> rfl)|(simp [*, a_J,a_H] <;> rfl),by repeat (first|(with_reducible first|exact HB.out|apply a_g|apply a_d|apply a_h|refine a_b ?_ d_B.out)|exact HB.out)⟩
 rw [if_pos c4] at H
 have c4b0 : (t308 == 0) = true:=beq_iff_eq.mpr c4
 have c4b1 : (t308 != 0) = false:=bne_eq_false_iff_eq.mpr c4
 clear c4
 obtain ⟨y309,hy309⟩ : ∃ y_ : List Int,y_ = (([a1] : List Int)):=⟨_,rfl⟩
 replace H : ((a_P.f l0_0 y309).bind fun t312 => (if t312 = true then (if 0 ≤ a1 then (if a1 < (l0_0.length : Int) then (some (rd l0_0 a1)) else (none)) else (none)) else (some 0))) = some r:=by first|(rw [hy309];with_reducible exact H)|(have H2_:=(Option.bind_some _ _).symm.trans H;rw [hy309];with_reducible exact H2_)|(have H2_:=(Option.bind_some _ _).symm.trans H;with_reducible exact H2_)|with_reducible exact H|(rw [hy309];exact H)|exact H
 have Ny309:=a_a.mk hy309
 clear hy309
 replace H:=Option.bind_eq_some_iff.mp H
 obtain ⟨t312,A50,H⟩:=H
 replace H : (if t312 = true then (if 0 ≤ a1 then (if a1 < (l0_0.length : Int) then (some (rd l0_0 a1)) else (none)) else (none)) else (some 0)) = some r:=H
 have A5:=a_a.mk A50
 clear A50
 by_cases c6 : t312 = true
 rotate_left
 ·replace c6:=Bool.eq_false_iff.mpr c6
  subst c6
  have H1 : (some 0) = some r:=by rw [if_neg (show ¬ (false = true) by decide)] at H;exact H
  clear H
  have H:=H1
  clear H1
  obtain rfl:=Option.some.inj H
  go_enter Try.func23,Try.ntmps23
  go_wp2_with (first|((with_reducible refine a_s (N:=2) rfl ?_);(try (refine b_P (by rfl) ?_;dsimp only));refine a_r ?hg (N:=2) ?hd (cs:=#[.slice A0_0 l0_0.length c0_0]) (t:=26) ?hr ?_;(case hd => rfl);(case hg => rfl);(case hr => first|(go_simp;done)|(go_simp;rfl));intro d_A hg w18 hbox hb;have c_r:=a_a.mk (hbox);have i_6:=a_a.mk ((by rw [hg];exact (a_p (lup_ HB.out)) : w.heap.size ≤ d_A));have d_B:=a_a.mk ((by rw [hg];exact (a_p (lup_ HB.out)) : w.heap.size ≤ d_A));replace HB:=a_a.mk (a_j (lup_ HB.out) hb);clear hb hbox hg;have h_0 : w18.cell? ⟨d_A,0,none⟩ = some (.slice A0_0 l0_0.length c0_0):=(a_f c_r.out 0).trans rfl;have i_a:=a_e c_r.out 0)|((with_reducible refine a_z (f:=17) rfl ?_);refine b_h (some 6) rfl rfl Try.func17 (by kernel_rfl) rfl #[.agg #[.slice A0_0 l0_0.length c0_0]] rfl (by (try simp only [List.map_toArray,List.map_cons,List.map_nil]);first|done|rfl|(simp only [List.length_drop,List.length_take];rfl)) ?_;(with_reducible refine (a_q.calls k _ _ l0_0 t308 _ ?side1 ?side2 A3.out).mono ?_);(case side1 => repeat (first|exact (Kd.a_2 c_u.out HB.out)|(with_reducible refine Kd.b_a ?_ _)|(with_reducible refine Kd.b_c ?_ _)|(with_reducible refine Kd.b_p ?_)));(case side2 => exact c_L.out);rintro e w20 ⟨rfl,hb⟩;refine ⟨_,rfl,?_⟩;replace c_r:=a_a.mk (a_c (bup_ c_r.out) hb);replace HB:=a_a.mk (a_j (by repeat (first|(with_reducible first|exact HB.out|apply a_g|apply a_d|apply a_h|refine a_b ?_ d_B.out)|exact HB.out)) hb);(try clear hb);(try clear hb2);(try clear hk);(try clear hi);have i_e : w20.cell? ⟨d_A,0,none⟩ = some (.slice A0_0 l0_0.length c0_0):=(a_f c_r.out 0).trans rfl;have i_f:=a_e c_r.out 0)|((with_reducible refine a_s (N:=11) rfl ?_);(try (refine b_P (by rfl) ?_;dsimp only));refine Kd.d_v (Kd.int .i64) _ 3 ?hg (N:=11) ?hd (xs:=([a1] : List Int)) (inner:=[.int .i64 a1]) (ok:=fun _ => True) (okp:=fun _ => True) ?hr ?hp (fun _ hk => hk) trivial (Below.refl _ _) (Nat.le_refl _) (by simp) ?_;(case hd => rfl);(case hg => rfl);(case hr => first|(go_simp;done)|(go_simp;rfl));(case hp => exact (Reps.one (show Kd.M (Kd.int .i64) _ _ _ a1 [.int .i64 a1] from rfl) (Reps.none _ _)));intro v310 w22 ho23 hb hg_ hnew_;clear hg_ hnew_;(first|rw [← Ny309.out] at ho23|(simp only [Int.reduceToNat] at ho23;rw [← Ny309.out] at ho23));have e_a:=a_a.mk (Kd.a_5 ho23 (a_p (by repeat (first|(with_reducible first|exact HB.out|apply a_g|apply a_d|apply a_h|refine a_b ?_ d_B.out)|exact HB.out))));replace c_r:=a_a.mk (a_c (bup_ c_r.out) hb);replace HB:=a_a.mk (a_j (by repeat (first|(with_reducible first|exact HB.out|apply a_g|apply a_d|apply a_h|refine a_b ?_ d_B.out)|exact HB.out)) hb);clear hb ho23;obtain ⟨Ao24,co24,eo24⟩:=Kd.a_4 e_a.out;subst eo24)|(go_at_call 44;(with_reducible refine (a_P.calls _ _ l0_0 _ _ y309 false _ ?side1 ?side2 ?side3 ?side4 A5.out).mono ?_);(case side1 => repeat (first|exact (Kd.a_2 c_u.out HB.out)|(with_reducible refine Kd.b_a ?_ _)|(with_reducible refine Kd.b_c ?_ _)|(with_reducible refine Kd.b_p ?_)));(case side2 => exact c_L.out);(case side3 => repeat (first|exact (Kd.a_t e_a.out).2.2|(with_reducible refine Kd.b_a ?_ _)|(with_reducible refine Kd.b_c ?_ _)|(with_reducible refine Kd.b_p ?_)));(case side4 => exact (Kd.a_t e_a.out).2.1);rintro e w25 ⟨rfl,hb⟩;replace e_a:=a_a.mk (Kd.a_w (rup_ e_a.out) hb);replace c_r:=a_a.mk (a_c (bup_ c_r.out) hb);replace HB:=a_a.mk (a_j (by repeat (first|(with_reducible first|exact HB.out|apply a_g|apply a_d|apply a_h|refine a_b ?_ d_B.out)|exact HB.out)) hb);(try clear hb);(try clear hb2);(try clear hk);(try clear hi)))
  go_ret
  exact ⟨by first|rfl|(simp [a_J,a_H] <;> rfl)|(simp [*, a_J,a_H] <;> rfl),by repeat (first|(with_reducible first|exact HB.out|apply a_g|apply a_d|apply a_h|refine a_b ?_ d_B.out)|exact HB.out)⟩
 subst c6
 have H1 : (if 0 ≤ a1 then (if a1 < (l0_0.length : Int) then (some (rd l0_0 a1)) else (none)) else (none)) = some r:=by rw [if_pos rfl] at H;exact H
 clear H
 have H:=H1
 clear H1
 by_cases c7 : 0 ≤ a1
 rotate_left
 ·rw [if_neg c7] at H
  exact absurd H (by simp)
 rw [if_pos c7] at H
 have c7b0 : decide (0 ≤ a1) = true:=decide_eq_true c7
 clear c7
 by_cases c8 : a1 < (l0_0.length : Int)
 rotate_left
 ·rw [if_neg c8] at H
  exact absurd H (by simp)
 rw [if_pos c8] at H
 have c8b0 : decide (a1 < (l0_0.length : Int)) = true:=decide_eq_true c8
 clear c8
 obtain rfl:=Option.some.inj H
 go_enter Try.func23,Try.ntmps23
 go_wp2_with (first|((with_reducible refine a_s (N:=2) rfl ?_);(try (refine b_P (by rfl) ?_;dsimp only));refine a_r ?hg (N:=2) ?hd (cs:=#[.slice A0_0 l0_0.length c0_0]) (t:=26) ?hr ?_;(case hd => rfl);(case hg => rfl);(case hr => first|(go_simp;done)|(go_simp;rfl));intro d_A hg w9 hbox hb;have c_r:=a_a.mk (hbox);have i_6:=a_a.mk ((by rw [hg];exact (a_p (lup_ HB.out)) : w.heap.size ≤ d_A));have d_B:=a_a.mk ((by rw [hg];exact (a_p (lup_ HB.out)) : w.heap.size ≤ d_A));replace HB:=a_a.mk (a_j (lup_ HB.out) hb);clear hb hbox hg;have h_U : w9.cell? ⟨d_A,0,none⟩ = some (.slice A0_0 l0_0.length c0_0):=(a_f c_r.out 0).trans rfl;have h_V:=a_e c_r.out 0)|((with_reducible refine a_z (f:=17) rfl ?_);refine b_h (some 6) rfl rfl Try.func17 (by kernel_rfl) rfl #[.agg #[.slice A0_0 l0_0.length c0_0]] rfl (by (try simp only [List.map_toArray,List.map_cons,List.map_nil]);first|done|rfl|(simp only [List.length_drop,List.length_take];rfl)) ?_;(with_reducible refine (a_q.calls k _ _ l0_0 t308 _ ?side1 ?side2 A3.out).mono ?_);(case side1 => repeat (first|exact (Kd.a_2 c_u.out HB.out)|(with_reducible refine Kd.b_a ?_ _)|(with_reducible refine Kd.b_c ?_ _)|(with_reducible refine Kd.b_p ?_)));(case side2 => exact c_L.out);rintro e w11 ⟨rfl,hb⟩;refine ⟨_,rfl,?_⟩;replace c_r:=a_a.mk (a_c (bup_ c_r.out) hb);replace HB:=a_a.mk (a_j (by repeat (first|(with_reducible first|exact HB.out|apply a_g|apply a_d|apply a_h|refine a_b ?_ d_B.out)|exact HB.out)) hb);(try clear hb);(try clear hb2);(try clear hk);(try clear hi);have h_W : w11.cell? ⟨d_A,0,none⟩ = some (.slice A0_0 l0_0.length c0_0):=(a_f c_r.out 0).trans rfl;have h_X:=a_e c_r.out 0)|((with_reducible refine a_s (N:=11) rfl ?_);(try (refine b_P (by rfl) ?_;dsimp only));refine Kd.d_v (Kd.int .i64) _ 3 ?hg (N:=11) ?hd (xs:=([a1] : List Int)) (inner:=[.int .i64 a1]) (ok:=fun _ => True) (okp:=fun _ => True) ?hr ?hp (fun _ hk => hk) trivial (Below.refl _ _) (Nat.le_refl _) (by simp) ?_;(case hd => rfl);(case hg => rfl);(case hr => first|(go_simp;done)|(go_simp;rfl));(case hp => exact (Reps.one (show Kd.M (Kd.int .i64) _ _ _ a1 [.int .i64 a1] from rfl) (Reps.none _ _)));intro v310 w13 ho14 hb hg_ hnew_;clear hg_ hnew_;(first|rw [← Ny309.out] at ho14|(simp only [Int.reduceToNat] at ho14;rw [← Ny309.out] at ho14));have e_a:=a_a.mk (Kd.a_5 ho14 (a_p (by repeat (first|(with_reducible first|exact HB.out|apply a_g|apply a_d|apply a_h|refine a_b ?_ d_B.out)|exact HB.out))));replace c_r:=a_a.mk (a_c (bup_ c_r.out) hb);replace HB:=a_a.mk (a_j (by repeat (first|(with_reducible first|exact HB.out|apply a_g|apply a_d|apply a_h|refine a_b ?_ d_B.out)|exact HB.out)) hb);clear hb ho14;obtain ⟨Ao15,co15,eo15⟩:=Kd.a_4 e_a.out;subst eo15)|(go_at_call 44;(with_reducible refine (a_P.calls _ _ l0_0 _ _ y309 true _ ?side1 ?side2 ?side3 ?side4 A5.out).mono ?_);(case side1 => repeat (first|exact (Kd.a_2 c_u.out HB.out)|(with_reducible refine Kd.b_a ?_ _)|(with_reducible refine Kd.b_c ?_ _)|(with_reducible refine Kd.b_p ?_)));(case side2 => exact c_L.out);(case side3 => repeat (first|exact (Kd.a_t e_a.out).2.2|(with_reducible refine Kd.b_a ?_ _)|(with_reducible refine Kd.b_c ?_ _)|(with_reducible refine Kd.b_p ?_)));(case side4 => exact (Kd.a_t e_a.out).2.1);rintro e w16 ⟨rfl,hb⟩;replace e_a:=a_a.mk (Kd.a_w (rup_ e_a.out) hb);replace c_r:=a_a.mk (a_c (bup_ c_r.out) hb);replace HB:=a_a.mk (a_j (by repeat (first|(with_reducible first|exact HB.out|apply a_g|apply a_d|apply a_h|refine a_b ?_ d_B.out)|exact HB.out)) hb);(try clear hb);(try clear hb2);(try clear hk);(try clear hi);have h_Y : w16.cell? ⟨d_A,0,none⟩ = some (.slice A0_0 l0_0.length c0_0):=(a_f c_r.out 0).trans rfl;have h_Z:=a_e c_r.out 0;have p313 : 0 ≤ (a1 : Int):=of_decide_eq_true (by first|(with_reducible assumption)|assumption);have q313 : a1 < (l0_0.length : Int):=of_decide_eq_true (by first|(with_reducible assumption)|assumption);obtain ⟨ad313,e313,f_g⟩:=Kd.c_B c_u.out a1 p313 q313;cases e313;replace f_g:=(HB.out.cell (World.block_lt_of_cell? w _ f_g)).trans f_g;replace p313:=eq_true p313;replace q313:=eq_true q313))
 go_ret
 exact ⟨by first|rfl|(simp [a_J,a_H] <;> rfl)|(simp [*, a_J,a_H] <;> rfl),by repeat (first|(with_reducible first|exact HB.out|apply a_g|apply a_d|apply a_h|refine a_b ?_ d_B.out)|exact HB.out)⟩
end Go.Proofs.Ytkhbffjfclepfaa.Q
end
section
namespace Go.Proofs.Ytkhbffjfclepfaa.Q
open Go.RowKit Go.Proofs.YtkhbffjfclepfaaW.PrintWords Go.Proofs.YtkhbffjfclepfaaW.PrintLast Go.Proofs.YtkhbffjfclepfaaW.PrintMore
set_option linter.unusedVariables false
set_option linter.unusedSimpArgs false
set_option maxHeartbeats 2000000 in
theorem c_M.calls (ad : Addr) (c0 : Nat) (l : List Int) (w : World) (hr : Kd.C (Kd.int .u32) w (some ad) l.length l) (hl : l.length < 35184372088832) :
 Calls Try.prog 57 #[.slice (some ad) l.length c0] w fun e w' => ∃ v : Value,e = .returned v ∧ Kd.R (Kd.int .u32) 31 w' w.heap.size (fun _ => True) v l ∧ Below w.heap.size w w':=by
 have HR:=a_a.mk hr
 have HL:=a_a.mk hl
 clear hr hl
 have HB:=a_a.mk (Below.refl w.heap.size w)
 have hnil := @Lib.run_eql_slice_nil Try.prog
 go_enter Try.func57,Try.ntmps57
 go_wp2_with (first|((with_reducible refine a_s (N:=5) rfl ?_);refine Kd.d_v (Kd.int .u32) _ 31 ?hg (N:=5) ?hd (xs:=([] : List Int)) (inner:=[]) (ok:=fun _ => True) (okp:=fun _ => True) ?hr ?hp (fun _ hk => hk) trivial (Below.refl _ _) (Nat.le_refl _) (by simp) ?_;(case hd => rfl);(case hg => rfl);(case hr => first|(go_simp;done)|(go_simp;rfl));(case hp => exact (Reps.none _ _));intro v121 w5 ho6 hb hg_ hnew_;clear hg_ hnew_;have HO:=a_a.mk ho6;have n3_:=a_a.mk (a_j HB.out hb);clear HB;have HB:=n3_;clear n3_ hb ho6)|((with_reducible refine d_P (b:=.append) (xs:=#[.tmp 5,.tmp 6]) rfl ?_);at_builtin;refine Kd.d_u (Kd.int .u32) (w0:=w) w.heap.size rfl (.tmp 5) (.tmp 6) 24 31 (.int .u32 0) 4 rfl Try.underlying24 f_n rfl (by decide) (by omega) v121 [] l _ _ _ (fun _ => True) (fun _ => False) rfl rfl ?aO ?aR (fun _ _ h => h) (fun _ h => h.elim) ?aF ?aB ?aS ?aL ?_;(case aR => exact (Kd.a_2 HR.out HB.out));(case aB => exact HB.out);(case aF => exact (fun _ _ => trivial));(case aO => exact HO.out);(case aS => exact HB.out.size);(case aL => have:=HL.out;simp;omega);intro v124 w9 ho hb hg hat;have HO2:=a_a.mk ho;have HB2:=a_a.mk hb;clear ho hb hg hat))
 go_ret
 exact ⟨_,rfl,HO2.out,HB2.out⟩
end Go.Proofs.Ytkhbffjfclepfaa.Q
end
section
namespace Go.Proofs.Ytkhbffjfclepfaa.Q
open Go.RowKit Go.Proofs.YtkhbffjfclepfaaW.PrintWords Go.Proofs.YtkhbffjfclepfaaW.PrintLast Go.Proofs.YtkhbffjfclepfaaW.PrintMore
set_option linter.unusedVariables false
set_option linter.unusedSimpArgs false
set_option maxHeartbeats 2000000 in
theorem b_U.does (g : Nat) (lb : Array Value) (eg : ∀ args w,(callFunc g args).run Try.prog w = .ok (.enter g args) w) (base : Nat) (M : Nat → Prop) (k : Nat) (ad : Addr) (c0 : Nat) (l : List Int) (A1 : Option Addr) (c1 : Nat) (ns : List Int) (w : World)
 (hr : Kd.C (Kd.int .u32) w (some ad) l.length l) (hc : l.length ≤ c0) (hr1 : Kd.C (Kd.int .i64) w A1 ns.length ns) (hc1 : ns.length ≤ c1) (hbase : base ≤ w.heap.size) (hM : ∀ k,M k → k < w.heap.size) (hec : a_q.f k l = some 0) (hp : a_P.f l ns = some true) (hl : l.length < 35184372088832)
 (err : Int) (l' : List Int) (J' : World → Prop) (hJ' : ∀ W W',J' W → (∀ k,M k → W'.heap[k]? = W.heap[k]?) → J' W')
 (hdo : ∀ W gq v,Below w.heap.size w W → w.heap.size ≤ gq → W.heap[gq]? = some (.cells #[v] 26 (0,0)) → Kd.R (Kd.int .u32) 31 W w.heap.size (fun _ => True) v l →
  Calls Try.prog g (#[.pointer (some ⟨gq,0,none⟩)] ++ lb) W fun e W' => e = .returned (.int .i64 err) ∧ Below base W W' ∧ J' W' ∧ (∀ k,k < W.heap.size → k ≠ gq → ¬ M k → some k ≠ v.ownBlock → W'.heap[k]? = W.heap[k]?) ∧ (err = 0 → ∃ v',W'.heap[gq]? = some (.cells #[v'] 26 (0,0)) ∧ Kd.R (Kd.int .u32) 31 W' w.heap.size (fun _ => True) v' l')) :
 Calls Try.prog 45 #[.agg #[.slice (some ad) l.length c0],.func (.func g) #[] lb,.slice A1 ns.length c1] w fun e w' => ∃ v,e = .returned (.tuple #[.agg #[v],.int .i64 err]) ∧ Kd.R (Kd.int .u32) 31 w' w.heap.size (fun _ => True) v (if err = 0 then l' else []) ∧ Below base w w' ∧ J' w' ∧ (∀ k,k < w.heap.size → ¬ M k → w'.heap[k]? = w.heap[k]?):=by
 have HR:=a_a.mk hr
 have HC:=a_a.mk hc
 have HR1:=a_a.mk hr1
 have HC1:=a_a.mk hc1
 have HE:=a_a.mk hec
 have HP:=a_a.mk hp
 have HL:=a_a.mk hl
 have HD:=a_a.mk hdo
 have HJ:=a_a.mk hJ'
 have HM:=a_a.mk hM
 have HBS:=a_a.mk hbase
 clear hr hc hr1 hc1 hec hp hl hdo hJ' hM hbase
 have HB:=a_a.mk (Below.refl w.heap.size w)
 by_cases herr : err = 0
 ·subst herr
  simp only [if_true]
  go_enter Try.func45,Try.ntmps45
  go_wp2_with (first
   | ((with_reducible refine a_s (N:=3) rfl ?_);refine a_r ?hg (N:=3) ?hd (cs:=#[.slice (some ad) l.length c0]) (t:=26) ?hr ?_;(case hd => rfl);(case hg => rfl);(case hr => first|(go_simp;done)|(go_simp;rfl));intro gbp hg wbp hbox hb;have m0_:=a_a.mk (a_j HB.out hb);have m1_:=a_a.mk (hbox);have m2_:=a_a.mk ((by rw [hg];exact HB.out.size : w.heap.size ≤ gbp));(try clear HB);have HB:=m0_;have BKp:=m1_;have GEp:=m2_;clear m0_ m1_ m2_ hb hbox hg)
   | ((with_reducible refine a_s (N:=6) rfl ?_);refine a_r ?hg (N:=6) ?hd (cs:=#[.slice none 0 0]) (t:=26) ?hr ?_;(case hd => rfl);(case hg => rfl);(case hr => first|(go_simp;done)|(go_simp;rfl));intro gbq hg wbq hbox hb;have m0_:=a_a.mk (a_c (g:=gbp) (o:=.cells #[.slice (some ad) l.length c0] 26 (0,0)) BKp.out hb);have m1_:=a_a.mk (a_j HB.out hb);have m2_:=a_a.mk (hbox);have m3_:=a_a.mk ((by rw [hg];exact HB.out.size : w.heap.size ≤ gbq));have m4_:=a_a.mk ((by rw [hg];exact Nat.ne_of_lt (a_i BKp.out) : gbp ≠ gbq));have m5_:=a_a.mk ((by rw [hg];exact Nat.ne_of_gt (a_i BKp.out) : gbq ≠ gbp));(try clear BKp);(try clear HB);have BKp:=m0_;have HB:=m1_;have BKq:=m2_;have GEq:=m3_;have NBp_q:=m4_;have NBq_p:=m5_;clear m0_ m1_ m2_ m3_ m4_ m5_ hb hbox hg;have hcz1_p_0 : World.cell? _ ⟨gbp,0,none⟩ = some (.slice (some ad) l.length c0):=(a_f BKp.out 0).trans rfl;have hfz1_p:=a_e BKp.out 0)
   | (go_at_call 17;(with_reducible refine (a_q.calls k _ _ l 0 _ ?s1 HC.out HE.out).mono ?_);(case s1 => exact Kd.a_2 HR.out HB.out);rintro e w' ⟨rfl,hb⟩;clear hcz1_p_0 hfz1_p;have m0_:=a_a.mk (a_c (g:=gbp) (o:=.cells #[.slice (some ad) l.length c0] 26 (0,0)) BKp.out hb);have m1_:=a_a.mk (a_c (g:=gbq) (o:=.cells #[.slice none 0 0] 26 (0,0)) BKq.out hb);have m2_:=a_a.mk (a_j HB.out hb);(try clear BKp);(try clear BKq);(try clear HB);have BKp:=m0_;have BKq:=m1_;have HB:=m2_;clear m0_ m1_ m2_ hb;have hcz2_p_0 : World.cell? _ ⟨gbp,0,none⟩ = some (.slice (some ad) l.length c0):=(a_f BKp.out 0).trans rfl;have hfz2_p:=a_e BKp.out 0)
   | (go_at_call 44;(with_reducible refine (a_P.calls _ _ l _ _ ns true _ ?s1 HC.out ?s2 HC1.out HP.out).mono ?_);(case s1 => exact Kd.a_2 HR.out HB.out);(case s2 => exact Kd.a_2 HR1.out HB.out);rintro e w' ⟨rfl,hb⟩;clear hcz2_p_0 hfz2_p;have m0_:=a_a.mk (a_c (g:=gbp) (o:=.cells #[.slice (some ad) l.length c0] 26 (0,0)) BKp.out hb);have m1_:=a_a.mk (a_c (g:=gbq) (o:=.cells #[.slice none 0 0] 26 (0,0)) BKq.out hb);have m2_:=a_a.mk (a_j HB.out hb);(try clear BKp);(try clear BKq);(try clear HB);have BKp:=m0_;have BKq:=m1_;have HB:=m2_;clear m0_ m1_ m2_ hb;have hcz3_p_0 : World.cell? _ ⟨gbp,0,none⟩ = some (.slice (some ad) l.length c0):=(a_f BKp.out 0).trans rfl;have hfz3_p:=a_e BKp.out 0)
   | (go_at_call 57;(with_reducible refine (c_M.calls _ _ l _ ?s1 HL.out).mono ?_);(case s1 => exact Kd.a_2 HR.out HB.out);rintro e w' ⟨v,rfl,ho,hb⟩;clear hcz3_p_0 hfz3_p;have m0_:=a_a.mk (a_c (g:=gbp) (o:=.cells #[.slice (some ad) l.length c0] 26 (0,0)) BKp.out hb);have m1_:=a_a.mk (a_c (g:=gbq) (o:=.cells #[.slice none 0 0] 26 (0,0)) BKq.out hb);have m2_:=a_a.mk (a_j HB.out hb);have m3_:=a_a.mk (Kd.a_5 ho HB.out.size);(try clear BKp);(try clear BKq);(try clear HB);have BKp:=m0_;have BKq:=m1_;have HB:=m2_;have HOv:=m3_;clear m0_ m1_ m2_ m3_ hb ho;obtain ⟨Av,cv,ev⟩:=Kd.a_4 HOv.out;subst ev)
   | ((with_reducible refine a_s (N:=9) rfl ?_);refine a_r ?hg (N:=9) ?hd (cs:=#[.slice none 0 0]) (t:=26) ?hr ?_;(case hd => rfl);(case hg => rfl);(case hr => first|(go_simp;done)|(go_simp;rfl));intro gbn hg wbn hbox hb;have m0_:=a_a.mk (a_c (g:=gbp) (o:=.cells #[.slice (some ad) l.length c0] 26 (0,0)) BKp.out hb);have m1_:=a_a.mk (a_c (g:=gbq) (o:=.cells #[.slice none 0 0] 26 (0,0)) BKq.out hb);have m2_:=a_a.mk (Kd.a_w HOv.out hb);have m3_:=a_a.mk (a_j HB.out hb);have m4_:=a_a.mk (hbox);have m5_:=a_a.mk ((by rw [hg];exact HB.out.size : w.heap.size ≤ gbn));have m6_:=a_a.mk ((by rw [hg];exact Nat.ne_of_lt (a_i BKp.out) : gbp ≠ gbn));have m7_:=a_a.mk ((by rw [hg];exact Nat.ne_of_gt (a_i BKp.out) : gbn ≠ gbp));have m8_:=a_a.mk ((by rw [hg];exact Nat.ne_of_lt (a_i BKq.out) : gbq ≠ gbn));have m9_:=a_a.mk ((by rw [hg];exact Nat.ne_of_gt (a_i BKq.out) : gbn ≠ gbq));(try clear BKp);(try clear BKq);(try clear HOv);(try clear HB);have BKp:=m0_;have BKq:=m1_;have HOv:=m2_;have HB:=m3_;have BKn:=m4_;have GEn:=m5_;have NBp_n:=m6_;have NBn_p:=m7_;have NBq_n:=m8_;have NBn_q:=m9_;clear m0_ m1_ m2_ m3_ m4_ m5_ m6_ m7_ m8_ m9_ hb hbox hg;have hcz4_n_0 : World.cell? _ ⟨gbn,0,none⟩ = some (.slice none 0 0):=(a_f BKn.out 0).trans rfl;have hfz4_n:=a_e BKn.out 0)
   | (go_at_fn g;refine (HD.out _ gbn (.slice Av l.length cv) ?d1 GEn.out ?d2 ?d3).mono ?_;(case d1 => exact a_b HB.out GEn.out);(case d2 => exact a_R (cs:=#[.slice none 0 0]) BKn.out 0 _ rfl);(case d3 => exact Kd.c_J HOv.out BKn.out (by decide) 0 _);rintro e w' ⟨rfl,hbb,hj,hk,hq⟩;clear hcz4_n_0 hfz4_n;have KQ:=a_a.mk ((hk gbq (by have:=a_i BKq.out;simpa [World.setCell] using this) NBq_n.out (fun hm => Nat.not_lt.2 GEq.out (HM.out _ hm)) (Kd.R_ne HOv.out BKq.out (by decide))).trans (a_u BKq.out (p:=⟨gbn,0,none⟩) NBq_n.out (.slice Av l.length cv)));have hcq : World.cell? _ ⟨gbq,0,none⟩ = some (.slice none 0 0):=(a_f KQ.out 0).trans rfl;have hfq:=a_e KQ.out 0;have HBB:=a_a.mk hbb;have HJ2:=a_a.mk hj;have HK:=a_a.mk hk;have hnq:=NBq_n.out;have hnq2:=NBn_q.out;clear hbb hj hk;obtain ⟨v',hbn,hov⟩:=hq (by trivial);obtain ⟨Aw,cw,ew⟩:=Kd.a_4 hov;subst ew;have KN:=a_a.mk hbn;have HOW:=a_a.mk hov;clear hbn hov;have hcn : World.cell? _ ⟨gbn,0,none⟩ = some (.slice Aw l'.length cw):=(a_f KN.out 0).trans rfl))
  refine bodyPost_ret (b_Q rfl _ _ gbq 26 #[.slice Aw l'.length cw] (0,0) _ rfl (a_R (cs:=#[.slice none 0 0]) KQ.out 0 _ rfl) Try.underlying26 rfl (by kernel_rfl)) rfl ?_
  refine ⟨_,rfl,Kd.c_J HOW.out KQ.out (by decide) 0 _,((HB.out.setCell GEn.out _).mono HBS.out |>.trans HBB.out).setCell (Nat.le_trans HBS.out GEq.out) _,HJ.out _ _ HJ2.out (fun k_ hk_ => c_A (HM.out _ hk_) GEq.out),fun k_ hk_ hm_ => ?_⟩
  refine (c_A hk_ GEq.out).trans ((HK.out k_ (by have:=HB.out.size;simp [World.setCell];omega) (Nat.ne_of_lt (Nat.lt_of_lt_of_le hk_ GEn.out)) hm_ (fun e_ => Nat.not_lt.2 (Kd.b_n HOv.out k_ e_.symm) hk_)).trans ?_)
  exact (c_A hk_ GEn.out).trans (HB.out.block k_ hk_)
 rw [if_neg herr]
 have hb1 : (err != 0) = true:=bne_iff_ne.mpr herr
 clear herr
 go_enter Try.func45,Try.ntmps45
 go_wp2_with (first
  | ((with_reducible refine a_s (N:=3) rfl ?_);refine a_r ?hg (N:=3) ?hd (cs:=#[.slice (some ad) l.length c0]) (t:=26) ?hr ?_;(case hd => rfl);(case hg => rfl);(case hr => first|(go_simp;done)|(go_simp;rfl));intro gbp hg wbp hbox hb;have m0_:=a_a.mk (a_j HB.out hb);have m1_:=a_a.mk (hbox);have m2_:=a_a.mk ((by rw [hg];exact HB.out.size : w.heap.size ≤ gbp));(try clear HB);have HB:=m0_;have BKp:=m1_;have GEp:=m2_;clear m0_ m1_ m2_ hb hbox hg)
  | ((with_reducible refine a_s (N:=6) rfl ?_);refine a_r ?hg (N:=6) ?hd (cs:=#[.slice none 0 0]) (t:=26) ?hr ?_;(case hd => rfl);(case hg => rfl);(case hr => first|(go_simp;done)|(go_simp;rfl));intro gbq hg wbq hbox hb;have m0_:=a_a.mk (a_c (g:=gbp) (o:=.cells #[.slice (some ad) l.length c0] 26 (0,0)) BKp.out hb);have m1_:=a_a.mk (a_j HB.out hb);have m2_:=a_a.mk (hbox);have m3_:=a_a.mk ((by rw [hg];exact HB.out.size : w.heap.size ≤ gbq));have m4_:=a_a.mk ((by rw [hg];exact Nat.ne_of_lt (a_i BKp.out) : gbp ≠ gbq));have m5_:=a_a.mk ((by rw [hg];exact Nat.ne_of_gt (a_i BKp.out) : gbq ≠ gbp));(try clear BKp);(try clear HB);have BKp:=m0_;have HB:=m1_;have BKq:=m2_;have GEq:=m3_;have NBp_q:=m4_;have NBq_p:=m5_;clear m0_ m1_ m2_ m3_ m4_ m5_ hb hbox hg;have hcz1_p_0 : World.cell? _ ⟨gbp,0,none⟩ = some (.slice (some ad) l.length c0):=(a_f BKp.out 0).trans rfl;have hfz1_p:=a_e BKp.out 0)
  | (go_at_call 17;(with_reducible refine (a_q.calls k _ _ l 0 _ ?s1 HC.out HE.out).mono ?_);(case s1 => exact Kd.a_2 HR.out HB.out);rintro e w' ⟨rfl,hb⟩;clear hcz1_p_0 hfz1_p;have m0_:=a_a.mk (a_c (g:=gbp) (o:=.cells #[.slice (some ad) l.length c0] 26 (0,0)) BKp.out hb);have m1_:=a_a.mk (a_c (g:=gbq) (o:=.cells #[.slice none 0 0] 26 (0,0)) BKq.out hb);have m2_:=a_a.mk (a_j HB.out hb);(try clear BKp);(try clear BKq);(try clear HB);have BKp:=m0_;have BKq:=m1_;have HB:=m2_;clear m0_ m1_ m2_ hb;have hcz2_p_0 : World.cell? _ ⟨gbp,0,none⟩ = some (.slice (some ad) l.length c0):=(a_f BKp.out 0).trans rfl;have hfz2_p:=a_e BKp.out 0)
  | (go_at_call 44;(with_reducible refine (a_P.calls _ _ l _ _ ns true _ ?s1 HC.out ?s2 HC1.out HP.out).mono ?_);(case s1 => exact Kd.a_2 HR.out HB.out);(case s2 => exact Kd.a_2 HR1.out HB.out);rintro e w' ⟨rfl,hb⟩;clear hcz2_p_0 hfz2_p;have m0_:=a_a.mk (a_c (g:=gbp) (o:=.cells #[.slice (some ad) l.length c0] 26 (0,0)) BKp.out hb);have m1_:=a_a.mk (a_c (g:=gbq) (o:=.cells #[.slice none 0 0] 26 (0,0)) BKq.out hb);have m2_:=a_a.mk (a_j HB.out hb);(try clear BKp);(try clear BKq);(try clear HB);have BKp:=m0_;have BKq:=m1_;have HB:=m2_;clear m0_ m1_ m2_ hb;have hcz3_p_0 : World.cell? _ ⟨gbp,0,none⟩ = some (.slice (some ad) l.length c0):=(a_f BKp.out 0).trans rfl;have hfz3_p:=a_e BKp.out 0)
  | (go_at_call 57;(with_reducible refine (c_M.calls _ _ l _ ?s1 HL.out).mono ?_);(case s1 => exact Kd.a_2 HR.out HB.out);rintro e w' ⟨v,rfl,ho,hb⟩;clear hcz3_p_0 hfz3_p;have m0_:=a_a.mk (a_c (g:=gbp) (o:=.cells #[.slice (some ad) l.length c0] 26 (0,0)) BKp.out hb);have m1_:=a_a.mk (a_c (g:=gbq) (o:=.cells #[.slice none 0 0] 26 (0,0)) BKq.out hb);have m2_:=a_a.mk (a_j HB.out hb);have m3_:=a_a.mk (Kd.a_5 ho HB.out.size);(try clear BKp);(try clear BKq);(try clear HB);have BKp:=m0_;have BKq:=m1_;have HB:=m2_;have HOv:=m3_;clear m0_ m1_ m2_ m3_ hb ho;obtain ⟨Av,cv,ev⟩:=Kd.a_4 HOv.out;subst ev)
  | ((with_reducible refine a_s (N:=9) rfl ?_);refine a_r ?hg (N:=9) ?hd (cs:=#[.slice none 0 0]) (t:=26) ?hr ?_;(case hd => rfl);(case hg => rfl);(case hr => first|(go_simp;done)|(go_simp;rfl));intro gbn hg wbn hbox hb;have m0_:=a_a.mk (a_c (g:=gbp) (o:=.cells #[.slice (some ad) l.length c0] 26 (0,0)) BKp.out hb);have m1_:=a_a.mk (a_c (g:=gbq) (o:=.cells #[.slice none 0 0] 26 (0,0)) BKq.out hb);have m2_:=a_a.mk (Kd.a_w HOv.out hb);have m3_:=a_a.mk (a_j HB.out hb);have m4_:=a_a.mk (hbox);have m5_:=a_a.mk ((by rw [hg];exact HB.out.size : w.heap.size ≤ gbn));have m6_:=a_a.mk ((by rw [hg];exact Nat.ne_of_lt (a_i BKp.out) : gbp ≠ gbn));have m7_:=a_a.mk ((by rw [hg];exact Nat.ne_of_gt (a_i BKp.out) : gbn ≠ gbp));have m8_:=a_a.mk ((by rw [hg];exact Nat.ne_of_lt (a_i BKq.out) : gbq ≠ gbn));have m9_:=a_a.mk ((by rw [hg];exact Nat.ne_of_gt (a_i BKq.out) : gbn ≠ gbq));(try clear BKp);(try clear BKq);(try clear HOv);(try clear HB);have BKp:=m0_;have BKq:=m1_;have HOv:=m2_;have HB:=m3_;have BKn:=m4_;have GEn:=m5_;have NBp_n:=m6_;have NBn_p:=m7_;have NBq_n:=m8_;have NBn_q:=m9_;clear m0_ m1_ m2_ m3_ m4_ m5_ m6_ m7_ m8_ m9_ hb hbox hg;have hcz4_n_0 : World.cell? _ ⟨gbn,0,none⟩ = some (.slice none 0 0):=(a_f BKn.out 0).trans rfl;have hfz4_n:=a_e BKn.out 0)
  | (go_at_fn g;refine (HD.out _ gbn (.slice Av l.length cv) ?d1 GEn.out ?d2 ?d3).mono ?_;(case d1 => exact a_b HB.out GEn.out);(case d2 => exact a_R (cs:=#[.slice none 0 0]) BKn.out 0 _ rfl);(case d3 => exact Kd.c_J HOv.out BKn.out (by decide) 0 _);rintro e w' ⟨rfl,hbb,hj,hk,hq⟩;clear hcz4_n_0 hfz4_n;have KQ:=a_a.mk ((hk gbq (by have:=a_i BKq.out;simpa [World.setCell] using this) NBq_n.out (fun hm => Nat.not_lt.2 GEq.out (HM.out _ hm)) (Kd.R_ne HOv.out BKq.out (by decide))).trans (a_u BKq.out (p:=⟨gbn,0,none⟩) NBq_n.out (.slice Av l.length cv)));have hcq : World.cell? _ ⟨gbq,0,none⟩ = some (.slice none 0 0):=(a_f KQ.out 0).trans rfl;have hfq:=a_e KQ.out 0;have HBB:=a_a.mk hbb;have HJ2:=a_a.mk hj;have HK:=a_a.mk hk;have hnq:=NBq_n.out;have hnq2:=NBn_q.out;clear hbb hj hk hq))
 refine bodyPost_ret (b_Q rfl _ _ gbq 26 #[.slice none 0 0] (0,0) _ rfl (a_R (cs:=#[.slice none 0 0]) KQ.out 0 _ rfl) Try.underlying26 rfl (by kernel_rfl)) rfl ?_
 refine ⟨_,rfl,Kd.d_Q _ _ _ _ _,((HB.out.setCell GEn.out _).mono HBS.out |>.trans HBB.out).setCell (Nat.le_trans HBS.out GEq.out) _,HJ.out _ _ HJ2.out (fun k_ hk_ => c_A (HM.out _ hk_) GEq.out),fun k_ hk_ hm_ => ?_⟩
 refine (c_A hk_ GEq.out).trans ((HK.out k_ (by have:=HB.out.size;simp [World.setCell];omega) (Nat.ne_of_lt (Nat.lt_of_lt_of_le hk_ GEn.out)) hm_ (fun e_ => Nat.not_lt.2 (Kd.b_n HOv.out k_ e_.symm) hk_)).trans ?_)
 exact (c_A hk_ GEn.out).trans (HB.out.block k_ hk_)
set_option maxHeartbeats 2000000 in
theorem b_U.bad (g : Nat) (lb : Array Value) (k : Nat) (A0 : Option Addr) (c0 : Nat) (l : List Int) (A1 : Option Addr) (c1 : Nat) (ns : List Int) (w : World)
 (hr : Kd.C (Kd.int .u32) w A0 l.length l) (hc : l.length ≤ c0) (hr1 : Kd.C (Kd.int .i64) w A1 ns.length ns) (hc1 : ns.length ≤ c1) (e1 : Int) (hec : a_q.f k l = some e1) (he1 : e1 ≠ 0) :
 Calls Try.prog 45 #[.agg #[.slice A0 l.length c0],.func (.func g) #[] lb,.slice A1 ns.length c1] w fun e w' => e = .returned (.tuple #[.agg #[.slice none 0 0],.int .i64 e1]) ∧ Below w.heap.size w w':=by
 have HR:=a_a.mk hr
 have HC:=a_a.mk hc
 have HR1:=a_a.mk hr1
 have HC1:=a_a.mk hc1
 have HE:=a_a.mk hec
 clear hr hc hr1 hc1 hec
 have HB:=a_a.mk (Below.refl w.heap.size w)
 have hb1 : (e1 != 0) = true:=bne_iff_ne.mpr he1
 clear he1
 go_enter Try.func45,Try.ntmps45
 go_wp2_with (first
  | ((with_reducible refine a_s (N:=3) rfl ?_);refine a_r ?hg (N:=3) ?hd (cs:=#[.slice A0 l.length c0]) (t:=26) ?hr ?_;(case hd => rfl);(case hg => rfl);(case hr => first|(go_simp;done)|(go_simp;rfl));intro gbp hg wbp hbox hb;have m0_:=a_a.mk (a_j HB.out hb);have m1_:=a_a.mk (hbox);have m2_:=a_a.mk ((by rw [hg];exact HB.out.size : w.heap.size ≤ gbp));(try clear HB);have HB:=m0_;have BKp:=m1_;have GEp:=m2_;clear m0_ m1_ m2_ hb hbox hg)
  | ((with_reducible refine a_s (N:=6) rfl ?_);refine a_r ?hg (N:=6) ?hd (cs:=#[.slice none 0 0]) (t:=26) ?hr ?_;(case hd => rfl);(case hg => rfl);(case hr => first|(go_simp;done)|(go_simp;rfl));intro gbq hg wbq hbox hb;have m0_:=a_a.mk (a_c (g:=gbp) (o:=.cells #[.slice A0 l.length c0] 26 (0,0)) BKp.out hb);have m1_:=a_a.mk (a_j HB.out hb);have m2_:=a_a.mk (hbox);have m3_:=a_a.mk ((by rw [hg];exact HB.out.size : w.heap.size ≤ gbq));have m4_:=a_a.mk ((by rw [hg];exact Nat.ne_of_lt (a_i BKp.out) : gbp ≠ gbq));have m5_:=a_a.mk ((by rw [hg];exact Nat.ne_of_gt (a_i BKp.out) : gbq ≠ gbp));(try clear BKp);(try clear HB);have BKp:=m0_;have HB:=m1_;have BKq:=m2_;have GEq:=m3_;have NBp_q:=m4_;have NBq_p:=m5_;clear m0_ m1_ m2_ m3_ m4_ m5_ hb hbox hg;have hcz1_p_0 : World.cell? _ ⟨gbp,0,none⟩ = some (.slice A0 l.length c0):=(a_f BKp.out 0).trans rfl;have hfz1_p:=a_e BKp.out 0)
  | (go_at_call 17;(with_reducible refine (a_q.calls k _ _ l e1 _ ?s1 HC.out HE.out).mono ?_);(case s1 => exact Kd.a_2 HR.out HB.out);rintro e w' ⟨rfl,hb⟩;clear hcz1_p_0 hfz1_p;have m0_:=a_a.mk (a_c (g:=gbp) (o:=.cells #[.slice A0 l.length c0] 26 (0,0)) BKp.out hb);have m1_:=a_a.mk (a_c (g:=gbq) (o:=.cells #[.slice none 0 0] 26 (0,0)) BKq.out hb);have m2_:=a_a.mk (a_j HB.out hb);(try clear BKp);(try clear BKq);(try clear HB);have BKp:=m0_;have BKq:=m1_;have HB:=m2_;clear m0_ m1_ m2_ hb;have hcz2_p_0 : World.cell? _ ⟨gbp,0,none⟩ = some (.slice A0 l.length c0):=(a_f BKp.out 0).trans rfl;have hfz2_p:=a_e BKp.out 0;have hcz2_q_0 : World.cell? _ ⟨gbq,0,none⟩ = some (.slice none 0 0):=(a_f BKq.out 0).trans rfl;have hfz2_q:=a_e BKq.out 0))
 refine bodyPost_ret (b_Q rfl _ _ gbq 26 #[.slice none 0 0] (0,0) _ rfl (a_R (cs:=#[.slice none 0 0]) BKq.out 0 _ rfl) Try.underlying26 rfl (by kernel_rfl)) rfl ?_
 exact ⟨rfl,HB.out.setCell GEq.out _⟩
set_option maxHeartbeats 2000000 in
theorem b_U.lacks (g : Nat) (lb : Array Value) (k : Nat) (A0 : Option Addr) (c0 : Nat) (l : List Int) (A1 : Option Addr) (c1 : Nat) (ns : List Int) (w : World)
 (hr : Kd.C (Kd.int .u32) w A0 l.length l) (hc : l.length ≤ c0) (hr1 : Kd.C (Kd.int .i64) w A1 ns.length ns) (hc1 : ns.length ≤ c1) (hec : a_q.f k l = some 0) (hp : a_P.f l ns = some false) :
 Calls Try.prog 45 #[.agg #[.slice A0 l.length c0],.func (.func g) #[] lb,.slice A1 ns.length c1] w fun e w' => e = .returned (.tuple #[.agg #[.slice none 0 0],.int .i64 4]) ∧ Below w.heap.size w w':=by
 have HR:=a_a.mk hr
 have HC:=a_a.mk hc
 have HR1:=a_a.mk hr1
 have HC1:=a_a.mk hc1
 have HE:=a_a.mk hec
 clear hr hc hr1 hc1 hec
 have HB:=a_a.mk (Below.refl w.heap.size w)
 have HP:=a_a.mk hp
 clear hp
 go_enter Try.func45,Try.ntmps45
 go_wp2_with (first
  | ((with_reducible refine a_s (N:=3) rfl ?_);refine a_r ?hg (N:=3) ?hd (cs:=#[.slice A0 l.length c0]) (t:=26) ?hr ?_;(case hd => rfl);(case hg => rfl);(case hr => first|(go_simp;done)|(go_simp;rfl));intro gbp hg wbp hbox hb;have m0_:=a_a.mk (a_j HB.out hb);have m1_:=a_a.mk (hbox);have m2_:=a_a.mk ((by rw [hg];exact HB.out.size : w.heap.size ≤ gbp));(try clear HB);have HB:=m0_;have BKp:=m1_;have GEp:=m2_;clear m0_ m1_ m2_ hb hbox hg)
  | ((with_reducible refine a_s (N:=6) rfl ?_);refine a_r ?hg (N:=6) ?hd (cs:=#[.slice none 0 0]) (t:=26) ?hr ?_;(case hd => rfl);(case hg => rfl);(case hr => first|(go_simp;done)|(go_simp;rfl));intro gbq hg wbq hbox hb;have m0_:=a_a.mk (a_c (g:=gbp) (o:=.cells #[.slice A0 l.length c0] 26 (0,0)) BKp.out hb);have m1_:=a_a.mk (a_j HB.out hb);have m2_:=a_a.mk (hbox);have m3_:=a_a.mk ((by rw [hg];exact HB.out.size : w.heap.size ≤ gbq));have m4_:=a_a.mk ((by rw [hg];exact Nat.ne_of_lt (a_i BKp.out) : gbp ≠ gbq));have m5_:=a_a.mk ((by rw [hg];exact Nat.ne_of_gt (a_i BKp.out) : gbq ≠ gbp));(try clear BKp);(try clear HB);have BKp:=m0_;have HB:=m1_;have BKq:=m2_;have GEq:=m3_;have NBp_q:=m4_;have NBq_p:=m5_;clear m0_ m1_ m2_ m3_ m4_ m5_ hb hbox hg;have hcz1_p_0 : World.cell? _ ⟨gbp,0,none⟩ = some (.slice A0 l.length c0):=(a_f BKp.out 0).trans rfl;have hfz1_p:=a_e BKp.out 0)
  | (go_at_call 17;(with_reducible refine (a_q.calls k _ _ l 0 _ ?s1 HC.out HE.out).mono ?_);(case s1 => exact Kd.a_2 HR.out HB.out);rintro e w' ⟨rfl,hb⟩;clear hcz1_p_0 hfz1_p;have m0_:=a_a.mk (a_c (g:=gbp) (o:=.cells #[.slice A0 l.length c0] 26 (0,0)) BKp.out hb);have m1_:=a_a.mk (a_c (g:=gbq) (o:=.cells #[.slice none 0 0] 26 (0,0)) BKq.out hb);have m2_:=a_a.mk (a_j HB.out hb);(try clear BKp);(try clear BKq);(try clear HB);have BKp:=m0_;have BKq:=m1_;have HB:=m2_;clear m0_ m1_ m2_ hb;have hcz2_p_0 : World.cell? _ ⟨gbp,0,none⟩ = some (.slice A0 l.length c0):=(a_f BKp.out 0).trans rfl;have hfz2_p:=a_e BKp.out 0;have hcz2_q_0 : World.cell? _ ⟨gbq,0,none⟩ = some (.slice none 0 0):=(a_f BKq.out 0).trans rfl;have hfz2_q:=a_e BKq.out 0)
  | (go_at_call 44;(with_reducible refine (a_P.calls _ _ l _ _ ns false _ ?s1 HC.out ?s2 HC1.out HP.out).mono ?_);(case s1 => exact Kd.a_2 HR.out HB.out);(case s2 => exact Kd.a_2 HR1.out HB.out);rintro e w' ⟨rfl,hb⟩;clear hcz2_p_0 hcz2_q_0 hfz2_p hfz2_q;have m0_:=a_a.mk (a_c (g:=gbp) (o:=.cells #[.slice A0 l.length c0] 26 (0,0)) BKp.out hb);have m1_:=a_a.mk (a_c (g:=gbq) (o:=.cells #[.slice none 0 0] 26 (0,0)) BKq.out hb);have m2_:=a_a.mk (a_j HB.out hb);(try clear BKp);(try clear BKq);(try clear HB);have BKp:=m0_;have BKq:=m1_;have HB:=m2_;clear m0_ m1_ m2_ hb;have hcz3_p_0 : World.cell? _ ⟨gbp,0,none⟩ = some (.slice A0 l.length c0):=(a_f BKp.out 0).trans rfl;have hfz3_p:=a_e BKp.out 0;have hcz3_q_0 : World.cell? _ ⟨gbq,0,none⟩ = some (.slice none 0 0):=(a_f BKq.out 0).trans rfl;have hfz3_q:=a_e BKq.out 0))
 refine bodyPost_ret (b_Q rfl _ _ gbq 26 #[.slice none 0 0] (0,0) _ rfl (a_R (cs:=#[.slice none 0 0]) BKq.out 0 _ rfl) Try.underlying26 rfl (by kernel_rfl)) rfl ?_
 exact ⟨rfl,HB.out.setCell GEq.out _⟩
end Go.Proofs.Ytkhbffjfclepfaa.Q
end
section
namespace Go.Proofs.Ytkhbffjfclepfaa.Q
open Go.RowKit Go.Proofs.YtkhbffjfclepfaaW.PrintWords Go.Proofs.YtkhbffjfclepfaaW.PrintLast Go.Proofs.YtkhbffjfclepfaaW.PrintMore
set_option linter.unusedVariables false
set_option linter.unusedSimpArgs false
def b_k.f (a0 : Int) (a1 : Int) : Option (Bool):=some ((Go.bits .andNot .u32 (Go.bits .and .u32 a0 255) a1) == 0)
set_option maxHeartbeats 8000000 in
set_option maxRecDepth 100000 in
theorem b_k.calls (a0 : Int) (a1 : Int) (r : Bool) (w : World) (h : b_k.f a0 a1 = some r) :
 Calls Try.prog 47 #[.int .u32 a0,.int .u32 a1] w fun e w' => e = .returned (.bool r) ∧ b_e w w':=by
 have H : (some ((Go.bits .andNot .u32 (Go.bits .and .u32 a0 255) a1) == 0)) = some r:=h
 clear h
 obtain rfl:=Option.some.inj H
 go_enter Try.func47,Try.ntmps47
 go_wp2
 go_ret
 exact ⟨by first|rfl|(simp;done)|(simp [*];done),by repeat (first|exact b_e.refl _|apply b_e.step)⟩
end Go.Proofs.Ytkhbffjfclepfaa.Q
end
