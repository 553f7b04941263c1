/- Part 2 of 7 of what the row of PoolTells stands on: contracts over the given program's functions, the plain law, the row; no condition beyond those that each theorem states. -/
import Derived.Test.YtkhbffjfclepfaaXPoolTells0
import Derived.Test.YtkhbffjfclepfaaProg
import Derived.Shelf.Abstract
import Derived.Test.YtkhbffjfclepfaaRows
import Derived.Deep.Slices
import Derived.ChangeArms
import Derived.DataReads
import Derived.ProofKit
import Derived.OpenShut
import Derived.ChangeOld
import Derived.SizedLaws
section
namespace Go.Proofs.Ytkhbffjfclepfaa
open Go.RowKit Go.Proofs.YtkhbffjfclepfaaW.PrintWords Go.Proofs.YtkhbffjfclepfaaW.PrintLast Go.Proofs.YtkhbffjfclepfaaW.PrintMore
def Up_ (w W : World) : Prop:=Below w.heap.size w W
instance (priority:=low) up0_ (w : World) : Nonempty (Up_ w w):=⟨Below.refl _ _⟩
instance upA_ (w W : World) (o : Obj) [h : Nonempty (Up_ w W)] : Nonempty (Up_ w (W.alloc o)):=h.elim fun h => ⟨a_f h o⟩
instance upN_ (w W : World) (n : Nat) [h : Nonempty (Up_ w W)] : Nonempty (Up_ w (W.drewN n)):=h.elim fun h => ⟨a_d h n⟩
instance upD_ (w W : World) [h : Nonempty (Up_ w W)] : Nonempty (Up_ w W.drew):=h.elim fun h => ⟨d_s h⟩
theorem bup_ {w W : World} {g : Nat} {o : Obj} (h : w.heap[g]? = some o) [u : Nonempty (Up_ w W)] : W.heap[g]? = some o:=u.elim fun b => a_e h b
theorem rup_ {α : Type} {d : Kd α} {e : Nat} {w W : World} {base : Nat} {ok : Nat → Prop} {v : Value} {xs : List α} (h : d.R e w base ok v xs) [u : Nonempty (Up_ w W)] : d.R e W base ok v xs:=u.elim fun b => Kd.a_y h b
theorem lup_ {w0 w W : World} (h : Below w0.heap.size w0 w) [u : Nonempty (Up_ w W)] : Below w0.heap.size w0 W:=u.elim fun b => a_i h b
abbrev T_ : Bool:=true
abbrev F_ : Bool:=false
end Go.Proofs.Ytkhbffjfclepfaa
end
section
namespace Go.Proofs.Ytkhbffjfclepfaa.Q
open Go.RowKit Go.Proofs.YtkhbffjfclepfaaW.PrintWords Go.Proofs.YtkhbffjfclepfaaW.PrintLast Go.Proofs.YtkhbffjfclepfaaW.PrintMore
set_option linter.unusedVariables false
set_option linter.unusedSimpArgs false
def errW : Option Int → Value
 | none => .nilIface
 | some c => .iface 0 (.int .i64 c)
theorem a_z : errW none = .nilIface:=rfl
theorem a_A (c : Int) : errW (some c) = .iface 0 (.int .i64 c):=rfl
theorem info3 : (Try.prog.info? 3).map (fun i => (i.zero,i.size,i.bytes)) = some (some (.int .i64 0),1,8):=by kernel_rfl
theorem f_w : (Try.prog.info? 31).map (fun i => (i.zero,i.size,i.bytes)) = some (some (.int .u32 0),1,4):=by kernel_rfl
structure S36 where
 f0 : Int
 f1 : Int
 f2 : Int
 f3 : Int
 f4 : Int
def z36 : S36:=⟨(0 : Int),(0 : Int),(0 : Int),(0 : Int),(0 : Int)⟩
structure S26 where
 f0 : (List Int)
def z26 : S26:=⟨([] : List Int)⟩
def k26 : Kd S26:=Kd.iso (Kd.slice 31 (Kd.int .u32)) (fun x : S26 => x.f0)
theorem g_O {w : World} {x : S26} {cs : List Value} (h : k26.K w x cs) : ∃ A0 c0,cs = [.slice A0 x.f0.length c0] ∧ x.f0.length ≤ c0 ∧ (Kd.int .u32).C w A0 x.f0.length x.f0:=by
 obtain ⟨A0,c0,rfl,l0,g0⟩:=h
 exact ⟨A0,c0,rfl,l0,g0⟩
def a_L (xs : List S26) (i : Int) : S26:=xs.getD i.toNat z26
theorem f_X {w : World} {A : Option Addr} {n : Nat} {xs : List S26} (h : Kd.C k26 w A n xs) (i : Int) (h0 : 0 ≤ i) (h1 : i < n) : ∃ ad A0 c0,A = some ad ∧ w.cell? (ad.add i.toNat) = some (.slice A0 (a_L xs i).f0.length c0) ∧ (a_L xs i).f0.length ≤ c0 ∧ (Kd.int .u32).C w A0 (a_L xs i).f0.length (a_L xs i).f0:=by
 obtain ⟨ad,c,e,_,hK,hc0⟩:=Kd.j_Z h z26 i h0 h1
 have hc : ∀ j u,c[j]? = some u → w.cell? (ad.add (i.toNat * 1 + j)) = some u:=hc0
 obtain ⟨A0,c0,rfl,l0,g0⟩:=g_O hK
 exact ⟨ad,A0,c0,e,by have hq:=hc 0 _ rfl;rwa [Nat.mul_one,Nat.add_zero] at hq,l0,g0⟩
def idxOf {α : Type} (p : α → Bool) (xs : List α) : Int:=match xs.findIdx? p with|some i => i|none => -1
theorem idxOf_hit {α : Type} {p : α → Bool} {xs : List α} {k : Nat} (hk : k < xs.length) (h : p xs[k] = true) (hb : ∀ j (hj : j < k),p (xs[j]'(by omega)) = false) : idxOf p xs = k:=by
 unfold idxOf
 have : xs.findIdx? p = some k:=by
  rw [List.findIdx?_eq_some_iff_getElem]
  exact ⟨hk,h,fun j hj => by simp [hb j hj]⟩
 rw [this]
theorem idxOf_miss {α : Type} {p : α → Bool} {xs : List α} (hb : ∀ j (hj : j < xs.length),p xs[j] = false) : idxOf p xs = -1:=by
 unfold idxOf
 have : xs.findIdx? p = none:=by
  rw [List.findIdx?_eq_none_iff]
  intro x hx
  obtain ⟨j,hj,rfl⟩:=List.getElem_of_mem hx
  exact hb j hj
 rw [this]
theorem e_D {α : Type} (p : α → Bool) (xs : List α) : decide (0 ≤ idxOf p xs) = xs.any p:=by
 unfold idxOf
 cases h : xs.findIdx? p with
 | none =>
  rw [List.findIdx?_eq_none_iff] at h
  have : xs.any p = false:=List.any_eq_false.2 fun x hx => by simp [h x hx]
  rw [this];rfl
 | some i =>
  rw [List.findIdx?_eq_some_iff_getElem] at h
  obtain ⟨hi,hp,_⟩:=h
  have : xs.any p = true:=List.any_eq_true.2 ⟨_,List.getElem_mem hi,hp⟩
  rw [this];simp
theorem c_m {w : World} {g j k B : Nat} {u : Value} (h : k < B) (hg : B ≤ g) : (w.setCell ⟨g,j,none⟩ u).heap[k]? = w.heap[k]?:=Below.heap_setCell w ⟨g,j,none⟩ u k (by show k ≠ g;omega)
end Go.Proofs.Ytkhbffjfclepfaa.Q
end
section
namespace Go.Proofs.Ytkhbffjfclepfaa.Q
open Go.RowKit Go.Proofs.YtkhbffjfclepfaaW.PrintWords Go.Proofs.YtkhbffjfclepfaaW.PrintLast Go.Proofs.YtkhbffjfclepfaaW.PrintMore
open Go.ChangeShapes Go.WideShapes Go.ChangeAt
set_option linter.unusedVariables false
set_option linter.unusedSimpArgs false
structure d_g (P : Program) (t : TypeId) {α : Type} (d : Kd α) (wf : α → Prop) : Prop where
 cells : P.cellsOf t = d.sz
 open_ : ∀ {H : Type} {enc : TypeId × Value → H} {w : World} {base : Nat} {spare : Nat → Bool} {held : Bool} {fuel : Nat} {cs : List Value} {x : DataW H × List MemPlace},
  DataW.trod enc P w base spare held fuel t cs = some x → ∃ v,d.K w v cs ∧ wf v
theorem d_g.int {P : Program} {t : TypeId} {k : IntKind} (ht : P.underlying t = some (.int k)) (hc : P.cellsOf t = 1) : d_g P t (Kd.int k) (fun n => (Lit.int k n).wf = true) :=
 ⟨hc,fun {H enc w base spare held fuel cs x} h => by
  cases fuel with
  | zero => simp [DataW.trod] at h
  | succ n =>
   unfold DataW.trod at h
   rw [ht] at h
   split at h <;> simp_all
   exact ⟨_,rfl,h.1.2⟩⟩
theorem d_g.bool {P : Program} {t : TypeId} (ht : P.underlying t = some .bool) (hc : P.cellsOf t = 1) : d_g P t Kd.bool (fun _ => True) :=
 ⟨hc,fun {H enc w base spare held fuel cs x} h => by
  cases fuel with
  | zero => simp [DataW.trod] at h
  | succ n =>
   unfold DataW.trod at h
   rw [ht] at h
   split at h
   all_goals first|exact ⟨_,rfl,trivial⟩|simp_all⟩
theorem f_z {α : Type} [Inhabited α] (m : Nat) (p : Nat → α → Prop) (h : ∀ i,i < m → ∃ v,p i v) : ∃ f : Nat → α, ∀ i,i < m → p i (f i):=by
 classical
 exact ⟨fun i => if hi : ∃ v,p i v then hi.choose else default,fun i hi => by
  have hx:=h i hi
  simp only [hx,dif_pos]
  exact hx.choose_spec⟩
theorem d_g.slice {P : Program} {t e : TypeId} {α : Type} {d : Kd α} {wf : α → Prop} [Inhabited α] (ht : P.underlying t = some (.slice e)) (hc : P.cellsOf t = 1) (he : d_g P e d wf) :
 d_g P t (Kd.slice e d) (fun l => l.length ≤ maxLen ∧ ∀ x ∈ l,wf x) :=
 ⟨hc,fun {H enc w base spare held fuel cs x} h => by
  rcases Go.Deep.open_slice ht h with ⟨rfl,_⟩ | ⟨a,len,cap,m,n,D,Pl,rfl,hb,hl,hm,hmm,_,hx⟩
  ·exact ⟨[],⟨none,0,rfl,Nat.le_refl _,⟨rfl,by simp,fun h => absurd h (Nat.lt_irrefl 0)⟩⟩,by simp,by simp⟩
  ·have hlm : len ≤ m:=by rw [hmm];split <;> omega
   obtain ⟨f,hf⟩:=f_z (α:=α) m (fun i v => ∃ cs',w.cells? base (a.add (i * P.cellsOf e)) (P.cellsOf e) = some cs' ∧ d.K w v cs' ∧ wf v) (fun i hi => by
    obtain ⟨cs',h1,h2⟩:=hx i hi
    obtain ⟨v,h3,h4⟩:=he.open_ h2
    exact ⟨v,cs',h1,h3,h4⟩)
   have hml : maxLen = 9223372036854775807:=rfl
   refine ⟨(List.range len).map f,⟨some a,cap,by simp,by simpa using hl,⟨by simp,by simp;omega,fun _ => ⟨a,rfl,fun j p hj => ?_⟩⟩⟩,by simp;omega,fun v hv => ?_⟩
   ·rw [List.getElem?_map] at hj
    obtain ⟨i,hi,rfl⟩:=Option.map_eq_some_iff.1 hj
    have hij : j < len:=by
     rcases Nat.lt_or_ge j len with h|h
     ·exact h
     ·rw [List.getElem?_eq_none (by simpa using h)] at hi;cases hi
    rw [List.getElem?_range hij] at hi
    injection hi with hi
    subst hi
    obtain ⟨cs',h1,h2,h3⟩:=hf j (by omega)
    obtain ⟨_,h4,h5⟩:=World.cells?_some h1
    rw [he.cells] at h4 h5 h1
    refine ⟨cs',h4,h2,fun i u hu => ?_⟩
    have hil : i < d.sz:=by
     rw [← h4]
     exact (List.getElem?_eq_some_iff.1 hu).1
    rw [show j * d.sz + i = j * d.sz + i from rfl, ← add_add,h5 i hil]
    exact hu
   ·obtain ⟨j,hj,rfl⟩:=List.mem_map.1 hv
    obtain ⟨_,_,_,h3⟩:=hf j (by have:=List.mem_range.1 hj;omega)
    exact h3⟩
theorem e_H {P : Program} {H : Type} {enc : TypeId × Value → H} {w : World} {base : Nat} {spare : Nat → Bool} {held : Bool} {fuel : Nat} {t : TypeId} {cs : List Value} {x : DataW H × List MemPlace} {fs : Array Field}
 (ht : P.underlying t = some (.struct fs)) (h : DataW.trod enc P w base spare held fuel t cs = some x) (i : Nat) {f : Field} (hf : fs[i]? = some f) {α : Type} {d : Kd α} {wf : α → Prop} (ho : d_g P f.type d wf) :
 ∃ v,d.K w v ((cs.drop f.offset).take d.sz) ∧ wf v:=by
 obtain ⟨xs,n,_,_,_,hl,hx⟩:=DataW.trod_struct ht h
 have h1:=hx i f hf
 have hi : i < xs.length:=by rw [hl];exact (Array.getElem?_eq_some_iff.1 hf).1
 rw [List.getElem?_eq_getElem hi,ho.cells] at h1
 exact ho.open_ h1
theorem e_J {P : Program} {H : Type} {enc : TypeId × Value → H} {w : World} {base : Nat} {spare : Nat → Bool} {held : Bool} {fuel : Nat} {t : TypeId} {cs : List Value} {x : DataW H × List MemPlace} {fs : Array Field}
 (ht : P.underlying t = some (.struct fs)) (h : DataW.trod enc P w base spare held fuel t cs = some x) : cs.length = P.cellsOf t:=by
 obtain ⟨xs,n,_,_,hl,_⟩:=DataW.trod_struct ht h
 exact hl
theorem d_z {α : Type} {cs : List α} {n : Nat} (h : cs.length = n + 1) : ∃ a l,cs = a :: l ∧ l.length = n:=by
 cases cs with
 | nil => simp at h
 | cons a l => exact ⟨a,l,rfl,by simpa using h⟩
theorem own : ownKnob Try.prog.godebug = none:=by kernel_rfl
theorem laidOut : laidOutB Try.prog = true:=by kernel_rfl
instance : Inhabited S26:=⟨z26⟩
def wf26 (x : S26) : Prop:=(fun l => l.length ≤ maxLen ∧ ∀ x ∈ l,(fun n => (Lit.int .u32 n).wf = true) x) x.f0
theorem op26 : d_g Try.prog 26 k26 wf26 :=
 ⟨by kernel_rfl,fun {H enc w base spare held fuel cs x} h => by
  have hl : cs.length = 1:=(e_J Try.underlying26 h).trans (by kernel_rfl)
  obtain ⟨v0,h0,w0⟩:=e_H Try.underlying26 h 0 rfl (d_g.slice Try.underlying24 (by kernel_rfl) (d_g.int Try.underlying31 (by kernel_rfl)))
  obtain ⟨c0,l0,rfl,hm0⟩:=d_z hl
  obtain rfl:=List.eq_nil_of_length_eq_zero hm0
  exact ⟨⟨v0⟩,h0,w0⟩⟩
instance : Inhabited S36:=⟨z36⟩
end Go.Proofs.Ytkhbffjfclepfaa.Q
end
section
namespace Go.Proofs.Ytkhbffjfclepfaa.Q
open Go.RowKit Go.Proofs.YtkhbffjfclepfaaW.PrintWords Go.Proofs.YtkhbffjfclepfaaW.PrintLast Go.Proofs.YtkhbffjfclepfaaW.PrintMore
set_option linter.unusedVariables false
set_option linter.unusedSimpArgs false
def b_t.f (l0_0 : List Int) : Option (List Int):=(some (([] : List Int) : List Int)).bind fun y144 => (if y144.length + l0_0.length < 35184372088832 then (some (y144 ++ l0_0)) else (none))
set_option maxHeartbeats 8000000 in
set_option maxRecDepth 100000 in
theorem b_t.calls (A0_0 : Option Addr) (c0_0 : Nat) (l0_0 : List Int) (r : List Int) (w : World) (hr0_0 : Kd.C (Kd.int .u32) w A0_0 l0_0.length l0_0) (hc0_0 : l0_0.length ≤ c0_0) (h : b_t.f l0_0 = some r) :
 Calls Try.prog 15 #[.agg #[.slice A0_0 l0_0.length c0_0]] w fun e w' => ∃ v0_ : Value,e = .returned (.agg #[v0_]) ∧ Kd.R (Kd.int .u32) 31 w' w.heap.size (fun _ => True) v0_ r ∧ Below w.heap.size w w':=by
 have hu26:=Try.underlying26
 have b_K:=a_a.mk hr0_0
 have c_d:=a_a.mk hc0_0
 clear hr0_0 hc0_0
 have HB:=a_a.mk (Below.refl w.heap.size w)
 have H : ((some (([] : List Int) : List Int)).bind fun y144 => (if y144.length + l0_0.length < 35184372088832 then (some (y144 ++ l0_0)) else (none))) = some r:=h
 clear h
 obtain ⟨y144,hy144⟩ : ∃ y_ : List Int,y_ = (([] : List Int)):=⟨_,rfl⟩
 replace H : (if y144.length + l0_0.length < 35184372088832 then (some (y144 ++ l0_0)) else (none)) = some r:=by first|(rw [hy144];with_reducible exact H)|(have H2_:=(Option.bind_some _ _).symm.trans H;rw [hy144];with_reducible exact H2_)|(have H2_:=(Option.bind_some _ _).symm.trans H;with_reducible exact H2_)|with_reducible exact H|(rw [hy144];exact H)|exact H
 have Ny144:=a_a.mk hy144
 clear hy144
 by_cases c2 : y144.length + l0_0.length < 35184372088832
 rotate_left
 ·rw [if_neg c2] at H
  exact absurd H (by simp)
 rw [if_pos c2] at H
 have LMc2:=a_a.mk c2
 clear c2
 obtain ⟨y147,hy147⟩ : ∃ y_ : List Int,y_ = (y144 ++ l0_0):=⟨_,rfl⟩
 replace H : (some y147) = some r:=by first|(rw [hy147];with_reducible exact H)|(have H2_:=(Option.bind_some _ _).symm.trans H;rw [hy147];with_reducible exact H2_)|(have H2_:=(Option.bind_some _ _).symm.trans H;with_reducible exact H2_)|with_reducible exact H|(rw [hy147];exact H)|exact H
 have Ny147:=a_a.mk hy147
 clear hy147
 obtain rfl:=Option.some.inj H
 go_enter Try.func15,Try.ntmps15
 go_wp2_with (first|((with_reducible refine a_E (N:=1) rfl ?_);refine a_D ?hg (N:=1) ?hd (cs:=#[.slice A0_0 l0_0.length c0_0]) (t:=26) ?hr ?_;(case hd => rfl);(case hg => rfl);(case hr => first|(go_simp;done)|(go_simp;rfl));intro f_H hg w3 hbox hb;have d_R:=a_a.mk (hbox);have l_m:=a_a.mk ((by rw [hg];exact (a_m (lup_ HB.out)) : w.heap.size ≤ f_H));have e_Q:=a_a.mk ((by rw [hg];exact (a_m (lup_ HB.out)) : w.heap.size ≤ f_H));replace HB:=a_a.mk (a_i (lup_ HB.out) hb);clear hb hbox hg)|((with_reducible refine a_E (N:=2) rfl ?_);refine a_D ?hg (N:=2) ?hd (cs:=#[.slice none 0 0]) (t:=26) ?hr ?_;(case hd => rfl);(case hg => rfl);(case hr => first|(go_simp;done)|(go_simp;rfl));intro e_R hg w4 hbox hb;have e_v:=a_a.mk (hbox);have l_n:=a_a.mk ((by rw [hg];exact (a_m (by repeat (first|(with_reducible first|exact HB.out|apply a_f|apply a_d|apply a_g|refine a_c ?_ e_Q.out)|exact HB.out))) : w.heap.size ≤ e_R));have g_c:=a_a.mk ((by rw [hg];exact (a_m (by repeat (first|(with_reducible first|exact HB.out|apply a_f|apply a_d|apply a_g|refine a_c ?_ e_Q.out)|exact HB.out))) : w.heap.size ≤ e_R));have g_d:=a_a.mk ((by rw [hg];exact Nat.ne_of_lt (a_p (bup_ d_R.out)) : f_H ≠ e_R));have g_e:=a_a.mk ((by rw [hg];exact Nat.ne_of_gt (a_p (bup_ d_R.out)) : e_R ≠ f_H));replace d_R:=a_a.mk (a_e (bup_ d_R.out) hb);replace HB:=a_a.mk (a_i (by repeat (first|(with_reducible first|exact HB.out|apply a_f|apply a_d|apply a_g|refine a_c ?_ e_Q.out)|exact HB.out)) hb);clear hb hbox hg)|((with_reducible refine a_E (N:=3) rfl ?_);refine Kd.d_N (Kd.int .u32) _ 31 ?hg (N:=3) ?hd (xs:=([] : List Int)) (inner:=[]) (ok:=fun _ => True) (okp:=fun _ => True) ?hr ?hp (fun _ hk => hk) trivial (Below.refl _ _) (Nat.le_refl _) (by simp) ?_;(case hd => rfl);(case hg => rfl);(case hr => first|(go_simp;done)|(go_simp;rfl));(case hp => exact (Reps.none _ _));intro v145 w5 ho6 hb hg_ hnew_;clear hg_ hnew_;(first|rw [← Ny144.out] at ho6|(simp only [Int.reduceToNat] at ho6;rw [← Ny144.out] at ho6));have g_8:=a_a.mk (Kd.b_y ho6 (a_m (by repeat (first|(with_reducible first|exact HB.out|apply a_f|apply a_d|apply a_g|refine a_c ?_ e_Q.out|refine a_c ?_ g_c.out)|exact HB.out))));replace d_R:=a_a.mk (a_e (bup_ d_R.out) hb);replace e_v:=a_a.mk (a_e (bup_ e_v.out) hb);replace HB:=a_a.mk (a_i (by repeat (first|(with_reducible first|exact HB.out|apply a_f|apply a_d|apply a_g|refine a_c ?_ e_Q.out|refine a_c ?_ g_c.out)|exact HB.out)) hb);clear hb ho6;have hnb7:=g_d.out;have hnc7:=g_e.out;have d_v : w5.cell? ⟨f_H,0,none⟩ = some (.slice A0_0 l0_0.length c0_0):=(a_j d_R.out 0).trans rfl;have d_w:=a_k d_R.out 0)|((with_reducible refine c_N (b:=.append) (xs:=#[.tmp 3,.tmp 5]) rfl ?_);at_builtin;refine Kd.d_c (Kd.int .u32) (w0:=w) w.heap.size rfl (.tmp 3) (.tmp 5) 24 31 (.int .u32 0) 4 rfl Try.underlying24 f_w rfl (by decide) (by omega) v145 y144 l0_0 _ _ _ (fun _ => True) (fun _ => False) rfl rfl ?aO ?aR (fun _ _ h => h) (fun _ h => h.elim) ?aF ?aB ?aS ?aL ?_;(case aR => repeat (first|exact (Kd.a_8 b_K.out HB.out)|(with_reducible refine Kd.a_M ?_ _)|(with_reducible refine Kd.a_N ?_ _)|(with_reducible refine Kd.a_T ?_)));(case aB => exact (by repeat (first|(with_reducible first|exact HB.out|apply a_f|apply a_d|apply a_g|refine a_c ?_ e_Q.out|refine a_c ?_ g_c.out)|exact HB.out)));(case aF => exact (fun _ _ => trivial));(case aO => exact (rup_ g_8.out));(case aS => exact (a_m (by repeat (first|(with_reducible first|exact HB.out|apply a_f|apply a_d|apply a_g|refine a_c ?_ e_Q.out|refine a_c ?_ g_c.out)|exact HB.out))));(case aL => have:=LMc2.out;omega);intro v148 w9 ho hb hg hat;rw [← Ny147.out] at ho;have i_u:=a_a.mk (ho);replace d_R:=a_a.mk (c_p (g:=f_H) (o:=.cells #[.slice A0_0 l0_0.length c0_0] 26 (0,0)) (bup_ d_R.out) hg (Kd.R_ne g_8.out d_R.out (by decide)));replace e_v:=a_a.mk (c_p (g:=e_R) (o:=.cells #[.slice none 0 0] 26 (0,0)) (bup_ e_v.out) hg (Kd.R_ne g_8.out e_v.out (by decide)));replace HB:=a_a.mk (hb);clear g_8 ho hb hg hat;obtain ⟨Ao10,co10,eo10⟩:=Kd.b_D i_u.out;subst eo10;have g_f : w9.cell? ⟨e_R,0,none⟩ = some (.slice none 0 0):=(a_j e_v.out 0).trans rfl;have g_g:=a_k e_v.out 0))
 refine bodyPost_ret (results_cell_row rfl _ _ e_R 26 #[.slice Ao10 y147.length co10] (0,0) _ rfl (by (with_reducible repeat (first|refine a_u ?_ _|refine a_t ?_|refine a_w ?_ _));refine b_q (cs:=#[.slice none 0 0]) ?_ 0 _ rfl;(with_reducible repeat (first|refine a_u ?_ _|refine a_t ?_|refine a_w ?_ _));exact e_v.out) Try.underlying26 rfl (by kernel_rfl)) rfl ?_
 exact ⟨_,by first|rfl|(simp [a_z,a_A] <;> rfl)|(simp [*, a_z,a_A] <;> rfl),by (with_reducible repeat (first|apply Kd.a_5|apply Kd.a_1|apply Kd.a_0));exact Kd.b_v (Kd.c_g (p:=⟨e_R,0,none⟩) (Kd.b_F i_u.out e_v.out (by decide)) (fun _ hk => hk.2) (.slice Ao10 y147.length co10)) (fun _ hk => trivial),by repeat (first|(with_reducible first|exact HB.out|apply a_f|apply a_d|apply a_g|refine a_c ?_ e_Q.out|refine a_c ?_ g_c.out)|exact HB.out)⟩
end Go.Proofs.Ytkhbffjfclepfaa.Q
end
section
namespace Go.Proofs.Ytkhbffjfclepfaa.Q
open Go.RowKit Go.Proofs.YtkhbffjfclepfaaW.PrintWords Go.Proofs.YtkhbffjfclepfaaW.PrintLast Go.Proofs.YtkhbffjfclepfaaW.PrintMore
set_option linter.unusedVariables false
set_option linter.unusedSimpArgs false
def a_v.f (l0_0 : List Int) : Option (List Int):=if 0 ≤ (mn (l0_0.length : Int) 12) then (if (mn (l0_0.length : Int) 12) ≤ (l0_0.length : Int) then ((b_t.f (l0_0.take ((mn (l0_0.length : Int) 12) : Int).toNat)).bind fun t153 => (some t153)) else (none)) else (none)
set_option maxHeartbeats 8000000 in
set_option maxRecDepth 100000 in
theorem a_v.calls (A0_0 : Option Addr) (c0_0 : Nat) (l0_0 : List Int) (r : List Int) (w : World) (hr0_0 : Kd.C (Kd.int .u32) w A0_0 l0_0.length l0_0) (hc0_0 : l0_0.length ≤ c0_0) (h : a_v.f l0_0 = some r) :
 Calls Try.prog 11 #[.agg #[.slice A0_0 l0_0.length c0_0]] w fun e w' => ∃ v0_ : Value,e = .returned (.agg #[v0_]) ∧ Kd.R (Kd.int .u32) 31 w' w.heap.size (fun _ => True) v0_ r ∧ Below w.heap.size w w':=by
 have hu26:=Try.underlying26
 have b_K:=a_a.mk hr0_0
 have c_d:=a_a.mk hc0_0
 clear hr0_0 hc0_0
 have HB:=a_a.mk (Below.refl w.heap.size w)
 have H : (if 0 ≤ (mn (l0_0.length : Int) 12) then (if (mn (l0_0.length : Int) 12) ≤ (l0_0.length : Int) then ((b_t.f (l0_0.take ((mn (l0_0.length : Int) 12) : Int).toNat)).bind fun t153 => (some t153)) else (none)) else (none)) = some r:=h
 clear h
 obtain ⟨ji2,hji2⟩ : ∃ j_ : Int,(mn (l0_0.length : Int) 12) = j_:=⟨_,rfl⟩
 replace H : (if 0 ≤ (ji2) then (if (ji2) ≤ (l0_0.length : Int) then ((b_t.f (l0_0.take ((ji2) : Int).toNat)).bind fun t153 => (some t153)) else (none)) else (none)) = some r:=by first|(rw [hji2] at H;exact H)|(simp only [hji2] at H ⊢; exact H)
 (try (have hji2h : ji2 ≤ 12:=by (rw [← hji2];unfold mn;(repeat' split) <;> omega)))
 (try (have hji2g : ji2 ≤ 64:=by omega))
 (try (have hji2l : 0 ≤ ji2:=by (rw [← hji2];unfold mn;(repeat' split) <;> omega)))
 (try (have hji2m : 0 ≤ ji2:=by omega))
 have hji2_ : (if 12 < (l0_0.length : Int) then 12 else (l0_0.length : Int)) = ji2:=hji2
 by_cases c3 : 0 ≤ (ji2)
 rotate_left
 ·rw [if_neg c3] at H
  exact absurd H (by simp)
 rw [if_pos c3] at H
 have c3b0:=eq_true c3
 have c3b1 : decide (0 ≤ (ji2)) = true:=decide_eq_true c3
 clear c3
 by_cases c4 : (ji2) ≤ (l0_0.length : Int)
 rotate_left
 ·rw [if_neg c4] at H
  exact absurd H (by simp)
 rw [if_pos c4] at H
 have c4b0:=eq_true c4
 have c4b1 : decide ((ji2) ≤ (l0_0.length : Int)) = true:=decide_eq_true c4
 clear c4
 replace H:=Option.bind_eq_some_iff.mp H
 obtain ⟨t153,A50,H⟩:=H
 replace H : (some t153) = some r:=H
 have A5:=a_a.mk A50
 clear A50
 obtain rfl:=Option.some.inj H
 go_enter Try.func11,Try.ntmps11
 go_wp2_with (first|((with_reducible refine a_E (N:=1) rfl ?_);refine a_D ?hg (N:=1) ?hd (cs:=#[.slice A0_0 l0_0.length c0_0]) (t:=26) ?hr ?_;(case hd => rfl);(case hg => rfl);(case hr => first|(go_simp;done)|(go_simp;rfl));intro g_h hg w6 hbox hb;have e_S:=a_a.mk (hbox);have l_o:=a_a.mk ((by rw [hg];exact (a_m (lup_ HB.out)) : w.heap.size ≤ g_h));have f_I:=a_a.mk ((by rw [hg];exact (a_m (lup_ HB.out)) : w.heap.size ≤ g_h));replace HB:=a_a.mk (a_i (lup_ HB.out) hb);clear hb hbox hg)|((with_reducible refine a_E (N:=2) rfl ?_);refine a_D ?hg (N:=2) ?hd (cs:=#[.slice none 0 0]) (t:=26) ?hr ?_;(case hd => rfl);(case hg => rfl);(case hr => first|(go_simp;done)|(go_simp;rfl));intro e_8 hg w7 hbox hb;have f_J:=a_a.mk (hbox);have l_p:=a_a.mk ((by rw [hg];exact (a_m (by repeat (first|(with_reducible first|exact HB.out|apply a_f|apply a_d|apply a_g|refine a_c ?_ f_I.out)|exact HB.out))) : w.heap.size ≤ e_8));have h_F:=a_a.mk ((by rw [hg];exact (a_m (by repeat (first|(with_reducible first|exact HB.out|apply a_f|apply a_d|apply a_g|refine a_c ?_ f_I.out)|exact HB.out))) : w.heap.size ≤ e_8));have g_i:=a_a.mk ((by rw [hg];exact Nat.ne_of_lt (a_p (bup_ e_S.out)) : g_h ≠ e_8));have g_j:=a_a.mk ((by rw [hg];exact Nat.ne_of_gt (a_p (bup_ e_S.out)) : e_8 ≠ g_h));replace e_S:=a_a.mk (a_e (bup_ e_S.out) hb);replace HB:=a_a.mk (a_i (by repeat (first|(with_reducible first|exact HB.out|apply a_f|apply a_d|apply a_g|refine a_c ?_ f_I.out)|exact HB.out)) hb);clear hb hbox hg;have hnb8:=g_i.out;have hnc8:=g_j.out;have k_x : w7.cell? ⟨g_h,0,none⟩ = some (.slice A0_0 l0_0.length c0_0):=(a_j e_S.out 0).trans rfl;have k_y:=a_k e_S.out 0;obtain ⟨i010,i_v,_,hsz10,_⟩:=info_parts f_w;obtain ⟨hcut10,hA10,hC10⟩:=e_n (P:=Try.prog) (Value.int .u32) 0 24 31 .i64 Try.underlying24 i_v hsz10 A0_0 c0_0 l0_0 (ji2) (of_decide_eq_true (by first|(with_reducible assumption)|assumption)) (of_decide_eq_true (by first|(with_reducible assumption)|assumption)) c_d.out;have j_6:=a_a.mk (Kd.f_A (h1:=fun _ => rfl) (hA10 _ (Kd.e_b b_K.out)));have j_7:=a_a.mk hC10;clear hA10 hC10 i_v hsz10)|((with_reducible refine a_B (f:=15) rfl ?_);refine b_f (some 11) rfl rfl Try.func15 (by kernel_rfl) rfl #[.agg #[.slice A0_0 (l0_0.take ((ji2) : Int).toNat).length c0_0]] rfl (by (try simp only [List.map_toArray,List.map_cons,List.map_nil]);first|done|(rw [show (l0_0.take ((ji2) : Int).toNat).length = (ji2).toNat from (by rw [List.length_take];have h_ : ((ji2) : Int) ≤ (l0_0.length : Int):=of_decide_eq_true (by first|(with_reducible assumption)|assumption);omega)] <;> rfl)|(simp only [hji2];rfl)|rfl|(simp only [List.length_drop,List.length_take];rfl)) ?_;(with_reducible refine (b_t.calls _ _ (l0_0.take ((ji2) : Int).toNat) t153 _ ?side1 ?side2 A5.out).mono ?_);(case side1 => repeat (first|exact (Kd.a_8 j_6.out HB.out)|(with_reducible refine Kd.a_M ?_ _)|(with_reducible refine Kd.a_N ?_ _)|(with_reducible refine Kd.a_T ?_)));(case side2 => exact j_7.out);rintro e w11 ⟨v154,rfl,ho0,hb⟩;refine ⟨_,rfl,?_⟩;have i_w:=a_a.mk (Kd.b_y ho0 (a_m (by repeat (first|(with_reducible first|exact HB.out|apply a_f|apply a_d|apply a_g|refine a_c ?_ f_I.out|refine a_c ?_ h_F.out)|exact HB.out))));replace e_S:=a_a.mk (a_e (bup_ e_S.out) hb);replace f_J:=a_a.mk (a_e (bup_ f_J.out) hb);replace HB:=a_a.mk (a_i (by repeat (first|(with_reducible first|exact HB.out|apply a_f|apply a_d|apply a_g|refine a_c ?_ f_I.out|refine a_c ?_ h_F.out)|exact HB.out)) hb);(try clear hb);(try clear hb2);(try clear hk);(try clear hi);(try clear ho0);obtain ⟨Ao12,co12,eo12⟩:=Kd.b_D i_w.out;subst eo12;have h_G : w11.cell? ⟨e_8,0,none⟩ = some (.slice none 0 0):=(a_j f_J.out 0).trans rfl;have h_H:=a_k f_J.out 0))
 refine bodyPost_ret (results_cell_row rfl _ _ e_8 26 #[.slice Ao12 t153.length co12] (0,0) _ rfl (by (with_reducible repeat (first|refine a_u ?_ _|refine a_t ?_|refine a_w ?_ _));refine b_q (cs:=#[.slice none 0 0]) ?_ 0 _ rfl;(with_reducible repeat (first|refine a_u ?_ _|refine a_t ?_|refine a_w ?_ _));exact f_J.out) Try.underlying26 rfl (by kernel_rfl)) rfl ?_
 exact ⟨_,by first|rfl|(simp [a_z,a_A] <;> rfl)|(simp only [← hji2];first|rfl|(simp [a_z,a_A] <;> rfl))|(simp [*, a_z,a_A] <;> rfl),by (with_reducible repeat (first|apply Kd.a_5|apply Kd.a_1|apply Kd.a_0));exact Kd.b_v (Kd.c_g (p:=⟨e_8,0,none⟩) (Kd.b_F i_w.out f_J.out (by decide)) (fun _ hk => hk.2) (.slice Ao12 t153.length co12)) (fun _ hk => trivial),by repeat (first|(with_reducible first|exact HB.out|apply a_f|apply a_d|apply a_g|refine a_c ?_ f_I.out|refine a_c ?_ h_F.out)|exact HB.out)⟩
end Go.Proofs.Ytkhbffjfclepfaa.Q
end
section
namespace Go.Proofs.Ytkhbffjfclepfaa.Q
open Go.RowKit Go.Proofs.YtkhbffjfclepfaaW.PrintWords Go.Proofs.YtkhbffjfclepfaaW.PrintLast Go.Proofs.YtkhbffjfclepfaaW.PrintMore
set_option linter.unusedVariables false
set_option linter.unusedSimpArgs false
def a_o.l0 : Nat → Int → Int → List Int → List Int → Option (Bool)
 | 0,_,_,_,_ => none
 | k + 1,x15,x16,x258000,x259000 => if x16 < x15 then (if 0 ≤ x16 then (if x16 < (x258000.length : Int) then (if x16 < (x259000.length : Int) then (if (rd x258000 x16) = (rd x259000 x16) then (a_o.l0 k x15 (wrap64 (x16 + 1)) x258000 x259000) else (some false)) else (none)) else (none)) else (none)) else (some true)
def a_o.f (k : Nat) (l0_0 : List Int) (l1_0 : List Int) : Option (Bool):=if (l0_0.length : Int) = (l1_0.length : Int) then (a_o.l0 k (l0_0.length : Int) 0 l0_0 l1_0) else (some false)
theorem a_o.b_X : ∀ k,(∀ y0 y1 y2 y3,LeO (a_o.l0 k y0 y1 y2 y3) (a_o.l0 (k + 1) y0 y1 y2 y3))
 | 0 => fun _ _ _ _ r h => by simp [a_o.l0] at h
 | k + 1 => by
  have ih0:=a_o.b_X k
  ·intro y0 y1 y2 y3
   unfold a_o.l0
   repeat' first
   | (with_reducible exact ih0 _ _ _ _)
   | (with_reducible exact LeO.refl _)
   | (with_reducible exact LeO.none _)
   | (with_reducible refine LeO.ite ?_ ?_)
   | (with_reducible refine LeO.bind ?_ (fun _ => ?_))
   | exact ih0 _ _ _ _
   | exact LeO.none _
   | refine LeO.ite ?_ ?_
   | refine LeO.bind ?_ (fun _ => ?_)
theorem a_o.mono : ∀ a0 a1 k,LeO (a_o.f k a0 a1) (a_o.f (k + 1) a0 a1):=by
 intro a0 a1 k
 have ih0:=a_o.b_X k
 unfold a_o.f
 repeat' first
  | (with_reducible exact ih0 _ _ _ _)
  | (with_reducible exact LeO.refl _)
  | (with_reducible exact LeO.none _)
  | (with_reducible refine LeO.ite ?_ ?_)
  | (with_reducible refine LeO.bind ?_ (fun _ => ?_))
  | exact ih0 _ _ _ _
  | exact LeO.none _
  | refine LeO.ite ?_ ?_
  | refine LeO.bind ?_ (fun _ => ?_)
set_option maxHeartbeats 8000000 in
set_option maxRecDepth 100000 in
theorem a_o.calls (k : Nat) (A0_0 : Option Addr) (c0_0 : Nat) (l0_0 : List Int) (A1_0 : Option Addr) (c1_0 : Nat) (l1_0 : List Int) (r : Bool) (w : World) (hr0_0 : Kd.C (Kd.int .u32) w A0_0 l0_0.length l0_0) (hc0_0 : l0_0.length ≤ c0_0) (hr1_0 : Kd.C (Kd.int .u32) w A1_0 l1_0.length l1_0) (hc1_0 : l1_0.length ≤ c1_0) (h : a_o.f k l0_0 l1_0 = some r) :
 Calls Try.prog 14 #[.agg #[.slice A0_0 l0_0.length c0_0],.agg #[.slice A1_0 l1_0.length c1_0]] w fun e w' => e = .returned (.bool r) ∧ Below w.heap.size w w':=by
 have hu26:=Try.underlying26
 have b_K:=a_a.mk hr0_0
 have c_d:=a_a.mk hc0_0
 clear hr0_0 hc0_0
 have g_9:=a_a.mk hr1_0
 have i_x:=a_a.mk hc1_0
 clear hr1_0 hc1_0
 have HB:=a_a.mk (Below.refl w.heap.size w)
 have H : (if (l0_0.length : Int) = (l1_0.length : Int) then (a_o.l0 k (l0_0.length : Int) 0 l0_0 l1_0) else (some false)) = some r:=h
 clear h
 by_cases c3 : (l0_0.length : Int) = (l1_0.length : Int)
 rotate_left
 ·rw [if_neg c3] at H
  have c3b0 : ((l0_0.length : Int) == (l1_0.length : Int)) = false:=beq_eq_false_iff_ne.mpr c3
  have c3b1 : ((l0_0.length : Int) != (l1_0.length : Int)) = true:=bne_iff_ne.mpr c3
  have c3b2 : (l0_0.length == l1_0.length) = false:=by first|simpa using c3|(simp at c3 ⊢; omega)
  obtain rfl:=Option.some.inj H
  go_enter Try.func14,Try.ntmps14
  go_wp2_with (first|((with_reducible refine a_E (N:=2) rfl ?_);refine a_D ?hg (N:=2) ?hd (cs:=#[.slice A0_0 l0_0.length c0_0]) (t:=26) ?hr ?_;(case hd => rfl);(case hg => rfl);(case hr => first|(go_simp;done)|(go_simp;rfl));intro b_O hg w20 hbox hb;have b_H:=a_a.mk (hbox);have g_k:=a_a.mk ((by rw [hg];exact (a_m (lup_ HB.out)) : w.heap.size ≤ b_O));have b_6:=a_a.mk ((by rw [hg];exact (a_m (lup_ HB.out)) : w.heap.size ≤ b_O));replace HB:=a_a.mk (a_i (lup_ HB.out) hb);clear hb hbox hg)|((with_reducible refine a_E (N:=3) rfl ?_);refine a_D ?hg (N:=3) ?hd (cs:=#[.slice A1_0 l1_0.length c1_0]) (t:=26) ?hr ?_;(case hd => rfl);(case hg => rfl);(case hr => first|(go_simp;done)|(go_simp;rfl));intro b_P hg w21 hbox hb;have c_l:=a_a.mk (hbox);have g_l:=a_a.mk ((by rw [hg];exact (a_m (by repeat (first|(with_reducible first|exact HB.out|apply a_f|apply a_d|apply a_g|refine a_c ?_ b_6.out)|exact HB.out))) : w.heap.size ≤ b_P));have d_7:=a_a.mk ((by rw [hg];exact (a_m (by repeat (first|(with_reducible first|exact HB.out|apply a_f|apply a_d|apply a_g|refine a_c ?_ b_6.out)|exact HB.out))) : w.heap.size ≤ b_P));have b_L:=a_a.mk ((by rw [hg];exact Nat.ne_of_lt (a_p (bup_ b_H.out)) : b_O ≠ b_P));have b_M:=a_a.mk ((by rw [hg];exact Nat.ne_of_gt (a_p (bup_ b_H.out)) : b_P ≠ b_O));replace b_H:=a_a.mk (a_e (bup_ b_H.out) hb);replace HB:=a_a.mk (a_i (by repeat (first|(with_reducible first|exact HB.out|apply a_f|apply a_d|apply a_g|refine a_c ?_ b_6.out)|exact HB.out)) hb);clear hb hbox hg;have i_y:=b_L.out;have i_z:=b_M.out;have e_9 : w21.cell? ⟨b_O,0,none⟩ = some (.slice A0_0 l0_0.length c0_0):=(a_j b_H.out 0).trans rfl;have f_a:=a_k b_H.out 0;have f_b : w21.cell? ⟨b_P,0,none⟩ = some (.slice A1_0 l1_0.length c1_0):=(a_j c_l.out 0).trans rfl;have f_c:=a_k c_l.out 0))
  repeat (go_quiet (first|((with_reducible refine a_E (N:=2) rfl ?_);refine a_D ?hg (N:=2) ?hd (cs:=#[.slice A0_0 l0_0.length c0_0]) (t:=26) ?hr ?_;(case hd => rfl);(case hg => rfl);(case hr => first|(go_simp;done)|(go_simp;rfl));intro b_O hg w20 hbox hb;have b_H:=a_a.mk (hbox);have g_k:=a_a.mk ((by rw [hg];exact (a_m (lup_ HB.out)) : w.heap.size ≤ b_O));have b_6:=a_a.mk ((by rw [hg];exact (a_m (lup_ HB.out)) : w.heap.size ≤ b_O));replace HB:=a_a.mk (a_i (lup_ HB.out) hb);clear hb hbox hg)|((with_reducible refine a_E (N:=3) rfl ?_);refine a_D ?hg (N:=3) ?hd (cs:=#[.slice A1_0 l1_0.length c1_0]) (t:=26) ?hr ?_;(case hd => rfl);(case hg => rfl);(case hr => first|(go_simp;done)|(go_simp;rfl));intro b_P hg w21 hbox hb;have c_l:=a_a.mk (hbox);have g_l:=a_a.mk ((by rw [hg];exact (a_m (by repeat (first|(with_reducible first|exact HB.out|apply a_f|apply a_d|apply a_g|refine a_c ?_ b_6.out)|exact HB.out))) : w.heap.size ≤ b_P));have d_7:=a_a.mk ((by rw [hg];exact (a_m (by repeat (first|(with_reducible first|exact HB.out|apply a_f|apply a_d|apply a_g|refine a_c ?_ b_6.out)|exact HB.out))) : w.heap.size ≤ b_P));have b_L:=a_a.mk ((by rw [hg];exact Nat.ne_of_lt (a_p (bup_ b_H.out)) : b_O ≠ b_P));have b_M:=a_a.mk ((by rw [hg];exact Nat.ne_of_gt (a_p (bup_ b_H.out)) : b_P ≠ b_O));replace b_H:=a_a.mk (a_e (bup_ b_H.out) hb);replace HB:=a_a.mk (a_i (by repeat (first|(with_reducible first|exact HB.out|apply a_f|apply a_d|apply a_g|refine a_c ?_ b_6.out)|exact HB.out)) hb);clear hb hbox hg;have i_y:=b_L.out;have i_z:=b_M.out;have e_9 : w21.cell? ⟨b_O,0,none⟩ = some (.slice A0_0 l0_0.length c0_0):=(a_j b_H.out 0).trans rfl;have f_a:=a_k b_H.out 0;have f_b : w21.cell? ⟨b_P,0,none⟩ = some (.slice A1_0 l1_0.length c1_0):=(a_j c_l.out 0).trans rfl;have f_c:=a_k c_l.out 0));try go_wp2_with (first|((with_reducible refine a_E (N:=2) rfl ?_);refine a_D ?hg (N:=2) ?hd (cs:=#[.slice A0_0 l0_0.length c0_0]) (t:=26) ?hr ?_;(case hd => rfl);(case hg => rfl);(case hr => first|(go_simp;done)|(go_simp;rfl));intro b_O hg w20 hbox hb;have b_H:=a_a.mk (hbox);have g_k:=a_a.mk ((by rw [hg];exact (a_m (lup_ HB.out)) : w.heap.size ≤ b_O));have b_6:=a_a.mk ((by rw [hg];exact (a_m (lup_ HB.out)) : w.heap.size ≤ b_O));replace HB:=a_a.mk (a_i (lup_ HB.out) hb);clear hb hbox hg)|((with_reducible refine a_E (N:=3) rfl ?_);refine a_D ?hg (N:=3) ?hd (cs:=#[.slice A1_0 l1_0.length c1_0]) (t:=26) ?hr ?_;(case hd => rfl);(case hg => rfl);(case hr => first|(go_simp;done)|(go_simp;rfl));intro b_P hg w21 hbox hb;have c_l:=a_a.mk (hbox);have g_l:=a_a.mk ((by rw [hg];exact (a_m (by repeat (first|(with_reducible first|exact HB.out|apply a_f|apply a_d|apply a_g|refine a_c ?_ b_6.out)|exact HB.out))) : w.heap.size ≤ b_P));have d_7:=a_a.mk ((by rw [hg];exact (a_m (by repeat (first|(with_reducible first|exact HB.out|apply a_f|apply a_d|apply a_g|refine a_c ?_ b_6.out)|exact HB.out))) : w.heap.size ≤ b_P));have b_L:=a_a.mk ((by rw [hg];exact Nat.ne_of_lt (a_p (bup_ b_H.out)) : b_O ≠ b_P));have b_M:=a_a.mk ((by rw [hg];exact Nat.ne_of_gt (a_p (bup_ b_H.out)) : b_P ≠ b_O));replace b_H:=a_a.mk (a_e (bup_ b_H.out) hb);replace HB:=a_a.mk (a_i (by repeat (first|(with_reducible first|exact HB.out|apply a_f|apply a_d|apply a_g|refine a_c ?_ b_6.out)|exact HB.out)) hb);clear hb hbox hg;have i_y:=b_L.out;have i_z:=b_M.out;have e_9 : w21.cell? ⟨b_O,0,none⟩ = some (.slice A0_0 l0_0.length c0_0):=(a_j b_H.out 0).trans rfl;have f_a:=a_k b_H.out 0;have f_b : w21.cell? ⟨b_P,0,none⟩ = some (.slice A1_0 l1_0.length c1_0):=(a_j c_l.out 0).trans rfl;have f_c:=a_k c_l.out 0)))
  go_ret
  exact ⟨by first|rfl|(simp [a_z,a_A] <;> rfl)|(simp [*, a_z,a_A] <;> rfl),by repeat (first|(with_reducible first|exact HB.out|apply a_f|apply a_d|apply a_g|refine a_c ?_ b_6.out|refine a_c ?_ d_7.out)|exact HB.out)⟩
 rw [if_pos c3] at H
 have c3b0 : ((l0_0.length : Int) == (l1_0.length : Int)) = true:=beq_iff_eq.mpr c3
 have c3b1 : ((l0_0.length : Int) != (l1_0.length : Int)) = false:=bne_eq_false_iff_eq.mpr c3
 have c3b2 : (l0_0.length == l1_0.length) = true:=by first|simpa using c3|(simp at c3 ⊢; omega)
 clear c3
 have H':=a_a.mk H
 clear H
 go_enter Try.func14,Try.ntmps14
 go_wp2_with (first|((with_reducible refine a_E (N:=2) rfl ?_);refine a_D ?hg (N:=2) ?hd (cs:=#[.slice A0_0 l0_0.length c0_0]) (t:=26) ?hr ?_;(case hd => rfl);(case hg => rfl);(case hr => first|(go_simp;done)|(go_simp;rfl));intro b_O hg w4 hbox hb;have b_H:=a_a.mk (hbox);have g_k:=a_a.mk ((by rw [hg];exact (a_m (lup_ HB.out)) : w.heap.size ≤ b_O));have b_6:=a_a.mk ((by rw [hg];exact (a_m (lup_ HB.out)) : w.heap.size ≤ b_O));replace HB:=a_a.mk (a_i (lup_ HB.out) hb);clear hb hbox hg)|((with_reducible refine a_E (N:=3) rfl ?_);refine a_D ?hg (N:=3) ?hd (cs:=#[.slice A1_0 l1_0.length c1_0]) (t:=26) ?hr ?_;(case hd => rfl);(case hg => rfl);(case hr => first|(go_simp;done)|(go_simp;rfl));intro b_P hg w5 hbox hb;have c_l:=a_a.mk (hbox);have g_l:=a_a.mk ((by rw [hg];exact (a_m (by repeat (first|(with_reducible first|exact HB.out|apply a_f|apply a_d|apply a_g|refine a_c ?_ b_6.out)|exact HB.out))) : w.heap.size ≤ b_P));have d_7:=a_a.mk ((by rw [hg];exact (a_m (by repeat (first|(with_reducible first|exact HB.out|apply a_f|apply a_d|apply a_g|refine a_c ?_ b_6.out)|exact HB.out))) : w.heap.size ≤ b_P));have b_L:=a_a.mk ((by rw [hg];exact Nat.ne_of_lt (a_p (bup_ b_H.out)) : b_O ≠ b_P));have b_M:=a_a.mk ((by rw [hg];exact Nat.ne_of_gt (a_p (bup_ b_H.out)) : b_P ≠ b_O));replace b_H:=a_a.mk (a_e (bup_ b_H.out) hb);replace HB:=a_a.mk (a_i (by repeat (first|(with_reducible first|exact HB.out|apply a_f|apply a_d|apply a_g|refine a_c ?_ b_6.out)|exact HB.out)) hb);clear hb hbox hg;have hnb6:=b_L.out;have hnc6:=b_M.out;have d_x : w5.cell? ⟨b_O,0,none⟩ = some (.slice A0_0 l0_0.length c0_0):=(a_j b_H.out 0).trans rfl;have d_y:=a_k b_H.out 0;have d_v : w5.cell? ⟨b_P,0,none⟩ = some (.slice A1_0 l1_0.length c1_0):=(a_j c_l.out 0).trans rfl;have d_w:=a_k c_l.out 0))
 repeat (go_quiet (first|((with_reducible refine a_E (N:=2) rfl ?_);refine a_D ?hg (N:=2) ?hd (cs:=#[.slice A0_0 l0_0.length c0_0]) (t:=26) ?hr ?_;(case hd => rfl);(case hg => rfl);(case hr => first|(go_simp;done)|(go_simp;rfl));intro b_O hg w4 hbox hb;have b_H:=a_a.mk (hbox);have g_k:=a_a.mk ((by rw [hg];exact (a_m (lup_ HB.out)) : w.heap.size ≤ b_O));have b_6:=a_a.mk ((by rw [hg];exact (a_m (lup_ HB.out)) : w.heap.size ≤ b_O));replace HB:=a_a.mk (a_i (lup_ HB.out) hb);clear hb hbox hg)|((with_reducible refine a_E (N:=3) rfl ?_);refine a_D ?hg (N:=3) ?hd (cs:=#[.slice A1_0 l1_0.length c1_0]) (t:=26) ?hr ?_;(case hd => rfl);(case hg => rfl);(case hr => first|(go_simp;done)|(go_simp;rfl));intro b_P hg w5 hbox hb;have c_l:=a_a.mk (hbox);have g_l:=a_a.mk ((by rw [hg];exact (a_m (by repeat (first|(with_reducible first|exact HB.out|apply a_f|apply a_d|apply a_g|refine a_c ?_ b_6.out)|exact HB.out))) : w.heap.size ≤ b_P));have d_7:=a_a.mk ((by rw [hg];exact (a_m (by repeat (first|(with_reducible first|exact HB.out|apply a_f|apply a_d|apply a_g|refine a_c ?_ b_6.out)|exact HB.out))) : w.heap.size ≤ b_P));have b_L:=a_a.mk ((by rw [hg];exact Nat.ne_of_lt (a_p (bup_ b_H.out)) : b_O ≠ b_P));have b_M:=a_a.mk ((by rw [hg];exact Nat.ne_of_gt (a_p (bup_ b_H.out)) : b_P ≠ b_O));replace b_H:=a_a.mk (a_e (bup_ b_H.out) hb);replace HB:=a_a.mk (a_i (by repeat (first|(with_reducible first|exact HB.out|apply a_f|apply a_d|apply a_g|refine a_c ?_ b_6.out)|exact HB.out)) hb);clear hb hbox hg;have hnb6:=b_L.out;have hnc6:=b_M.out;have d_x : w5.cell? ⟨b_O,0,none⟩ = some (.slice A0_0 l0_0.length c0_0):=(a_j b_H.out 0).trans rfl;have d_y:=a_k b_H.out 0;have d_v : w5.cell? ⟨b_P,0,none⟩ = some (.slice A1_0 l1_0.length c1_0):=(a_j c_l.out 0).trans rfl;have d_w:=a_k c_l.out 0));try go_wp2_with (first|((with_reducible refine a_E (N:=2) rfl ?_);refine a_D ?hg (N:=2) ?hd (cs:=#[.slice A0_0 l0_0.length c0_0]) (t:=26) ?hr ?_;(case hd => rfl);(case hg => rfl);(case hr => first|(go_simp;done)|(go_simp;rfl));intro b_O hg w4 hbox hb;have b_H:=a_a.mk (hbox);have g_k:=a_a.mk ((by rw [hg];exact (a_m (lup_ HB.out)) : w.heap.size ≤ b_O));have b_6:=a_a.mk ((by rw [hg];exact (a_m (lup_ HB.out)) : w.heap.size ≤ b_O));replace HB:=a_a.mk (a_i (lup_ HB.out) hb);clear hb hbox hg)|((with_reducible refine a_E (N:=3) rfl ?_);refine a_D ?hg (N:=3) ?hd (cs:=#[.slice A1_0 l1_0.length c1_0]) (t:=26) ?hr ?_;(case hd => rfl);(case hg => rfl);(case hr => first|(go_simp;done)|(go_simp;rfl));intro b_P hg w5 hbox hb;have c_l:=a_a.mk (hbox);have g_l:=a_a.mk ((by rw [hg];exact (a_m (by repeat (first|(with_reducible first|exact HB.out|apply a_f|apply a_d|apply a_g|refine a_c ?_ b_6.out)|exact HB.out))) : w.heap.size ≤ b_P));have d_7:=a_a.mk ((by rw [hg];exact (a_m (by repeat (first|(with_reducible first|exact HB.out|apply a_f|apply a_d|apply a_g|refine a_c ?_ b_6.out)|exact HB.out))) : w.heap.size ≤ b_P));have b_L:=a_a.mk ((by rw [hg];exact Nat.ne_of_lt (a_p (bup_ b_H.out)) : b_O ≠ b_P));have b_M:=a_a.mk ((by rw [hg];exact Nat.ne_of_gt (a_p (bup_ b_H.out)) : b_P ≠ b_O));replace b_H:=a_a.mk (a_e (bup_ b_H.out) hb);replace HB:=a_a.mk (a_i (by repeat (first|(with_reducible first|exact HB.out|apply a_f|apply a_d|apply a_g|refine a_c ?_ b_6.out)|exact HB.out)) hb);clear hb hbox hg;have hnb6:=b_L.out;have hnc6:=b_M.out;have d_x : w5.cell? ⟨b_O,0,none⟩ = some (.slice A0_0 l0_0.length c0_0):=(a_j b_H.out 0).trans rfl;have d_y:=a_k b_H.out 0;have d_v : w5.cell? ⟨b_P,0,none⟩ = some (.slice A1_0 l1_0.length c1_0):=(a_j c_l.out 0).trans rfl;have d_w:=a_k c_l.out 0)))
 go_loopg [16] k (fun kq v16 w' => ∃ (x16_1 : Int),v16 = .int .i64 x16_1 ∧ a_a (a_o.l0 kq (l0_0.length : Int) x16_1 l0_0 l1_0 = some r) ∧ a_a (kq ≤ k) ∧ a_a (w'.heap[b_O]? = some (.cells #[(.slice A0_0 l0_0.length c0_0)] 26 (0,0))) ∧ a_a (w'.heap[b_P]? = some (.cells #[(.slice A1_0 l1_0.length c1_0)] 26 (0,0))) ∧ a_a (Below w.heap.size w w'))
 case atStart => exact ⟨(0),(by first|rfl|(simp;done)|(simp [*];done)),H',⟨Nat.le_refl _⟩,⟨by (with_reducible repeat (first|refine a_u ?_ _|refine a_t ?_|refine a_w ?_ _));exact b_H.out⟩,⟨by (with_reducible repeat (first|refine a_u ?_ _|refine a_t ?_|refine a_w ?_ _));exact c_l.out⟩,⟨by repeat (first|(with_reducible first|exact HB.out|apply a_f|apply a_d|apply a_g|refine a_c ?_ b_6.out|refine a_c ?_ d_7.out)|exact HB.out)⟩⟩
 case round =>
  clear H'
  try clear c1
  try clear p2
  try clear c3
  try clear c3b0
  try clear c3b1
  try clear c3b2
  try clear c6
  try clear d_x
  try clear d_v
  try clear d_y
  try clear d_w
  obtain ⟨x16_1,rfl,HA,HK1,b_H,c_l,HB⟩:=hrel
  cases gk with
  | zero => exact absurd HA.out (by simp [a_o.l0])
  | succ k1 =>
   have H:=HA.out
   clear HA
   simp only [a_o.l0] at H
   by_cases c9 : x16_1 < (l0_0.length : Int)
   rotate_left
   ·rw [if_neg c9] at H
    have c9b0 : decide (x16_1 < (l0_0.length : Int)) = false:=decide_eq_false c9
    clear c9
    obtain rfl:=Option.some.inj H
    go_wp2
    repeat (go_quiet (fail);try go_wp2)
    go_ret
    exact ⟨by first|rfl|(simp [a_z,a_A] <;> rfl)|(simp [*, a_z,a_A] <;> rfl),by repeat (first|(with_reducible first|exact HB.out|apply a_f|apply a_d|apply a_g|refine a_c ?_ b_6.out|refine a_c ?_ d_7.out)|exact HB.out)⟩
   rw [if_pos c9] at H
   have c9b0 : decide (x16_1 < (l0_0.length : Int)) = true:=decide_eq_true c9
   clear c9
   by_cases c10 : 0 ≤ x16_1
   rotate_left
   ·rw [if_neg c10] at H
    exact absurd H (by simp)
   rw [if_pos c10] at H
   have c10b0 : decide (0 ≤ x16_1) = true:=decide_eq_true c10
   clear c10
   by_cases c11 : x16_1 < (l0_0.length : Int)
   rotate_left
   ·rw [if_neg c11] at H
    exact absurd H (by simp)
   rw [if_pos c11] at H
   have c11b0 : decide (x16_1 < (l0_0.length : Int)) = true:=decide_eq_true c11
   clear c11
   by_cases c12 : x16_1 < (l1_0.length : Int)
   rotate_left
   ·rw [if_neg c12] at H
    exact absurd H (by simp)
   rw [if_pos c12] at H
   have c12b0 : decide (x16_1 < (l1_0.length : Int)) = true:=decide_eq_true c12
   clear c12
   by_cases c13 : (rd l0_0 x16_1) = (rd l1_0 x16_1)
   rotate_left
   ·rw [if_neg c13] at H
    have c13b0 : ((rd l0_0 x16_1) == (rd l1_0 x16_1)) = false:=beq_eq_false_iff_ne.mpr c13
    have c13b1 : ((rd l0_0 x16_1) != (rd l1_0 x16_1)) = true:=bne_iff_ne.mpr c13
    obtain rfl:=Option.some.inj H
    have l_q:=b_L.out
    have l_r:=b_M.out
    have j_8 : wr.cell? ⟨b_O,0,none⟩ = some (.slice A0_0 l0_0.length c0_0):=(a_j b_H.out 0).trans rfl
    have j_9:=a_k b_H.out 0
    have p259 : 0 ≤ (x16_1 : Int):=of_decide_eq_true (by first|(with_reducible assumption)|assumption)
    have q259 : x16_1 < (l0_0.length : Int):=of_decide_eq_true (by first|(with_reducible assumption)|assumption)
    obtain ⟨ad259,e259,c_Z⟩:=Kd.b_w b_K.out x16_1 p259 q259
    cases e259
    replace c_Z:=(HB.out.cell (World.block_lt_of_cell? w _ c_Z)).trans c_Z
    replace p259:=eq_true p259
    replace q259:=eq_true q259
    have f_d : wr.cell? ⟨b_P,0,none⟩ = some (.slice A1_0 l1_0.length c1_0):=(a_j c_l.out 0).trans rfl
    have f_e:=a_k c_l.out 0
    have p260 : 0 ≤ (x16_1 : Int):=of_decide_eq_true (by first|(with_reducible assumption)|assumption)
    have q260 : x16_1 < (l1_0.length : Int):=of_decide_eq_true (by first|(with_reducible assumption)|assumption)
    obtain ⟨ad260,e260,c_0⟩:=Kd.b_w g_9.out x16_1 p260 q260
    cases e260
    replace c_0:=(HB.out.cell (World.block_lt_of_cell? w _ c_0)).trans c_0
    replace p260:=eq_true p260
    replace q260:=eq_true q260
    go_wp2
    repeat (go_quiet (fail);try go_wp2)
    go_ret
    exact ⟨by first|rfl|(simp [a_z,a_A] <;> rfl)|(simp [*, a_z,a_A] <;> rfl),by repeat (first|(with_reducible first|exact HB.out|apply a_f|apply a_d|apply a_g|refine a_c ?_ b_6.out|refine a_c ?_ d_7.out)|exact HB.out)⟩
   rw [if_pos c13] at H
   have c13b0 : ((rd l0_0 x16_1) == (rd l1_0 x16_1)) = true:=beq_iff_eq.mpr c13
   have c13b1 : ((rd l0_0 x16_1) != (rd l1_0 x16_1)) = false:=bne_eq_false_iff_eq.mpr c13
   clear c13
   have H':=a_a.mk H
   clear H
   have l_s:=b_L.out
   have l_t:=b_M.out
   have k_a : wr.cell? ⟨b_O,0,none⟩ = some (.slice A0_0 l0_0.length c0_0):=(a_j b_H.out 0).trans rfl
   have k_b:=a_k b_H.out 0
   have p259 : 0 ≤ (x16_1 : Int):=of_decide_eq_true (by first|(with_reducible assumption)|assumption)
   have q259 : x16_1 < (l0_0.length : Int):=of_decide_eq_true (by first|(with_reducible assumption)|assumption)
   obtain ⟨ad259,e259,c_Z⟩:=Kd.b_w b_K.out x16_1 p259 q259
   cases e259
   replace c_Z:=(HB.out.cell (World.block_lt_of_cell? w _ c_Z)).trans c_Z
   replace p259:=eq_true p259
   replace q259:=eq_true q259
   have h_I : wr.cell? ⟨b_P,0,none⟩ = some (.slice A1_0 l1_0.length c1_0):=(a_j c_l.out 0).trans rfl
   have h_J:=a_k c_l.out 0
   have p260 : 0 ≤ (x16_1 : Int):=of_decide_eq_true (by first|(with_reducible assumption)|assumption)
   have q260 : x16_1 < (l1_0.length : Int):=of_decide_eq_true (by first|(with_reducible assumption)|assumption)
   obtain ⟨ad260,e260,c_0⟩:=Kd.b_w g_9.out x16_1 p260 q260
   cases e260
   replace c_0:=(HB.out.cell (World.block_lt_of_cell? w _ c_0)).trans c_0
   replace p260:=eq_true p260
   replace q260:=eq_true q260
   go_wp2
   repeat (go_quiet (fail);try go_wp2)
   go_roundg k1
   case measure => have:=HK1.out;omega
   case rel => exact ⟨(wrap64 (x16_1 + 1)),(by first|rfl|(simp;done)|(simp [*];done)),H',⟨by have:=HK1.out;omega⟩,⟨by (with_reducible repeat (first|refine a_u ?_ _|refine a_t ?_|refine a_w ?_ _));exact b_H.out⟩,⟨by (with_reducible repeat (first|refine a_u ?_ _|refine a_t ?_|refine a_w ?_ _));exact c_l.out⟩,⟨by repeat (first|(with_reducible first|exact HB.out|apply a_f|apply a_d|apply a_g|refine a_c ?_ b_6.out|refine a_c ?_ d_7.out)|exact HB.out)⟩⟩
end Go.Proofs.Ytkhbffjfclepfaa.Q
end
section
namespace Go.Proofs.Ytkhbffjfclepfaa.Q
open Go.RowKit Go.Proofs.YtkhbffjfclepfaaW.PrintWords Go.Proofs.YtkhbffjfclepfaaW.PrintLast Go.Proofs.YtkhbffjfclepfaaW.PrintMore
set_option linter.unusedVariables false
set_option linter.unusedSimpArgs false
def b_z.f (a0 : Int) : Option (Bool):=if a0 ≥ 0 then (some (decide (a0 < 8))) else (some false)
set_option maxHeartbeats 8000000 in
set_option maxRecDepth 100000 in
theorem b_z.calls (a0 : Int) (r : Bool) (w : World) (h : b_z.f a0 = some r) :
 Calls Try.prog 54 #[.int .i64 a0] w fun e w' => e = .returned (.bool r) ∧ b_g w w':=by
 have H : (if a0 ≥ 0 then (some (decide (a0 < 8))) else (some false)) = some r:=h
 clear h
 by_cases c2 : a0 ≥ 0
 ·rw [if_pos c2] at H
  have c2b0 : decide (0 ≤ a0) = true:=decide_eq_true c2
  clear c2
  obtain rfl:=Option.some.inj H
  go_enter Try.func54,Try.ntmps54
  go_wp2
  go_ret
  exact ⟨by first|rfl|(simp;done)|(simp [*];done),by repeat (first|exact b_g.refl _|apply b_g.step)⟩
 rw [if_neg c2] at H
 have c2b0 : decide (0 ≤ a0) = false:=decide_eq_false c2
 clear c2
 obtain rfl:=Option.some.inj H
 go_enter Try.func54,Try.ntmps54
 go_wp2
 go_ret
 exact ⟨by first|rfl|(simp;done)|(simp [*];done),by repeat (first|exact b_g.refl _|apply b_g.step)⟩
end Go.Proofs.Ytkhbffjfclepfaa.Q
end
section
namespace Go.Proofs.Ytkhbffjfclepfaa.Q
open Go.RowKit Go.Proofs.YtkhbffjfclepfaaW.PrintWords Go.Proofs.YtkhbffjfclepfaaW.PrintLast Go.Proofs.YtkhbffjfclepfaaW.PrintMore
set_option linter.unusedVariables false
set_option linter.unusedSimpArgs false
def b_o.f (a0 : Int) (a1 : Int) : Option (Bool):=(b_z.f a1).bind fun t173 => (if t173 = true then (if 0 ≤ a1 then (some ((Int.tmod (shr .u32 a0 a1) 2) == 1)) else (none)) else (some false))
set_option maxHeartbeats 8000000 in
set_option maxRecDepth 100000 in
theorem b_o.calls (a0 : Int) (a1 : Int) (r : Bool) (w : World) (h : b_o.f a0 a1 = some r) :
 Calls Try.prog 43 #[.int .u32 a0,.int .i64 a1] w fun e w' => e = .returned (.bool r) ∧ b_g w w':=by
 have H : ((b_z.f a1).bind fun t173 => (if t173 = true then (if 0 ≤ a1 then (some ((Int.tmod (shr .u32 a0 a1) 2) == 1)) else (none)) else (some false))) = some r:=h
 clear h
 replace H:=Option.bind_eq_some_iff.mp H
 obtain ⟨t173,A30,H⟩:=H
 replace H : (if t173 = true then (if 0 ≤ a1 then (some ((Int.tmod (shr .u32 a0 a1) 2) == 1)) else (none)) else (some false)) = some r:=H
 have A3:=a_a.mk A30
 clear A30
 by_cases c4 : t173 = true
 rotate_left
 ·replace c4:=Bool.eq_false_iff.mpr c4
  subst c4
  have H1 : (some false) = some r:=by rw [if_neg (show ¬ (false = true) by decide)] at H;exact H
  clear H
  have H:=H1
  clear H1
  obtain rfl:=Option.some.inj H
  go_enter Try.func43,Try.ntmps43
  go_wp2_with (first|((with_reducible refine a_B (f:=54) rfl ?_);refine b_f (some 6) rfl rfl Try.func54 (by kernel_rfl) rfl #[.int .i64 a1] rfl (by (try simp only [List.map_toArray,List.map_cons,List.map_nil]);first|done|rfl|(simp only [List.length_drop,List.length_take];rfl)) ?_;(with_reducible refine (b_z.calls a1 false _ A3.out).mono ?_);rintro e w' ⟨rfl,⟨nd,rfl⟩⟩;refine ⟨_,rfl,?_⟩))
  go_ret
  exact ⟨by first|rfl|(simp;done)|(simp [*];done),by repeat (first|exact b_g.refl _|apply b_g.step)⟩
 subst c4
 have H1 : (if 0 ≤ a1 then (some ((Int.tmod (shr .u32 a0 a1) 2) == 1)) else (none)) = some r:=by rw [if_pos rfl] at H;exact H
 clear H
 have H:=H1
 clear H1
 by_cases c5 : 0 ≤ a1
 rotate_left
 ·rw [if_neg c5] at H
  exact absurd H (by simp)
 rw [if_pos c5] at H
 have c5b0:=eq_true c5
 have c5b1 : decide (0 ≤ a1) = true:=decide_eq_true c5
 clear c5
 obtain ⟨ji6,hji6⟩ : ∃ j_ : Int,(shr .u32 a0 a1) = j_:=⟨_,rfl⟩
 replace H : (some ((Int.tmod (ji6) 2) == 1)) = some r:=by first|(rw [hji6] at H;exact H)|(simp only [hji6] at H ⊢; exact H)
 (try rw [hji6] at A3)
 have hji6_ : (a0 / 2 ^ min a1.toNat 32) = ji6:=hji6
 have hji6z : a1 ≤ 32 → (a0 / 2 ^ a1.toNat) = ji6:=f_R hji6
 obtain rfl:=Option.some.inj H
 go_enter Try.func43,Try.ntmps43
 go_wp2_with (first|((with_reducible refine a_B (f:=54) rfl ?_);refine b_f (some 6) rfl rfl Try.func54 (by kernel_rfl) rfl #[.int .i64 a1] rfl (by (try simp only [List.map_toArray,List.map_cons,List.map_nil]);first|done|rfl|(simp only [List.length_drop,List.length_take];rfl)) ?_;(with_reducible refine (b_z.calls a1 true _ A3.out).mono ?_);rintro e w' ⟨rfl,⟨nd,rfl⟩⟩;refine ⟨_,rfl,?_⟩))
 go_ret
 exact ⟨by first|rfl|(simp;done)|(simp only [← hji6] <;> (first|rfl|simp))|(simp [*];done),by repeat (first|exact b_g.refl _|apply b_g.step)⟩
end Go.Proofs.Ytkhbffjfclepfaa.Q
end
section
namespace Go.Proofs.Ytkhbffjfclepfaa.Q
open Go.RowKit Go.Proofs.YtkhbffjfclepfaaW.PrintWords Go.Proofs.YtkhbffjfclepfaaW.PrintLast Go.Proofs.YtkhbffjfclepfaaW.PrintMore
set_option linter.unusedVariables false
set_option linter.unusedSimpArgs false
def a_l.l0 : Nat → Int → Int → Int → List Int → Int → Int → Option (Int × Bool)
 | 0,_,_,_,_,_,_ => none
 | k + 1,x1,x6,x7,x11,x12,x13 => if x13 < x12 then (if 0 ≤ x13 then (if x13 < (x11.length : Int) then ((b_o.f (rd x11 x13) x1).bind fun t176 => (if t176 = true then (a_l.l0 k x1 x13 (wrap64 (x7 + 1)) x11 x12 (wrap64 (x13 + 1))) else (a_l.l0 k x1 x6 x7 x11 x12 (wrap64 (x13 + 1))))) else (none)) else (none)) else (if x7 = 1 then (some (x6,true)) else (some (0,false)))
def a_l.f (k : Nat) (l0_0 : List Int) (a1 : Int) : Option (Int × Bool):=a_l.l0 k a1 0 0 l0_0 (l0_0.length : Int) 0
theorem a_l.b_X : ∀ k,(∀ y0 y1 y2 y3 y4 y5,LeO (a_l.l0 k y0 y1 y2 y3 y4 y5) (a_l.l0 (k + 1) y0 y1 y2 y3 y4 y5))
 | 0 => fun _ _ _ _ _ _ r h => by simp [a_l.l0] at h
 | k + 1 => by
  have ih0:=a_l.b_X k
  ·intro y0 y1 y2 y3 y4 y5
   unfold a_l.l0
   repeat' first
   | (with_reducible exact ih0 _ _ _ _ _ _)
   | (with_reducible exact LeO.refl _)
   | (with_reducible exact LeO.none _)
   | (with_reducible refine LeO.ite ?_ ?_)
   | (with_reducible refine LeO.bind ?_ (fun _ => ?_))
   | exact ih0 _ _ _ _ _ _
   | exact LeO.none _
   | refine LeO.ite ?_ ?_
   | refine LeO.bind ?_ (fun _ => ?_)
theorem a_l.mono : ∀ a0 a1 k,LeO (a_l.f k a0 a1) (a_l.f (k + 1) a0 a1):=by
 intro a0 a1 k
 have ih0:=a_l.b_X k
 unfold a_l.f
 repeat' first
  | (with_reducible exact ih0 _ _ _ _ _ _)
  | (with_reducible exact LeO.refl _)
  | (with_reducible exact LeO.none _)
  | (with_reducible refine LeO.ite ?_ ?_)
  | (with_reducible refine LeO.bind ?_ (fun _ => ?_))
  | exact ih0 _ _ _ _ _ _
  | exact LeO.none _
  | refine LeO.ite ?_ ?_
  | refine LeO.bind ?_ (fun _ => ?_)
set_option maxHeartbeats 8000000 in
set_option maxRecDepth 100000 in
theorem a_l.calls (k : Nat) (A0_0 : Option Addr) (c0_0 : Nat) (l0_0 : List Int) (a1 : Int) (r1 : Int) (r2 : Bool) (w : World) (hr0_0 : Kd.C (Kd.int .u32) w A0_0 l0_0.length l0_0) (hc0_0 : l0_0.length ≤ c0_0) (h : a_l.f k l0_0 a1 = some (r1,r2)) :
 Calls Try.prog 21 #[.agg #[.slice A0_0 l0_0.length c0_0],.int .i64 a1] w fun e w' => e = .returned (.tuple #[.int .i64 r1,.bool r2]) ∧ Below w.heap.size w w':=by
 have hu26:=Try.underlying26
 have b_K:=a_a.mk hr0_0
 have c_d:=a_a.mk hc0_0
 clear hr0_0 hc0_0
 have HB:=a_a.mk (Below.refl w.heap.size w)
 have H : (a_l.l0 k a1 0 0 l0_0 (l0_0.length : Int) 0) = some (r1,r2):=h
 clear h
 have H':=a_a.mk H
 clear H
 go_enter Try.func21,Try.ntmps21
 go_wp2_with (first|((with_reducible refine a_E (N:=2) rfl ?_);refine a_D ?hg (N:=2) ?hd (cs:=#[.slice A0_0 l0_0.length c0_0]) (t:=26) ?hr ?_;(case hd => rfl);(case hg => rfl);(case hr => first|(go_simp;done)|(go_simp;rfl));intro h_a hg w3 hbox hb;have f_K:=a_a.mk (hbox);have l_u:=a_a.mk ((by rw [hg];exact (a_m (lup_ HB.out)) : w.heap.size ≤ h_a));have g_m:=a_a.mk ((by rw [hg];exact (a_m (lup_ HB.out)) : w.heap.size ≤ h_a));replace HB:=a_a.mk (a_i (lup_ HB.out) hb);clear hb hbox hg;have i_A : w3.cell? ⟨h_a,0,none⟩ = some (.slice A0_0 l0_0.length c0_0):=(a_j f_K.out 0).trans rfl;have i_B:=a_k f_K.out 0))
 go_loopg [6,7,13] k (fun kq v6 v7 v13 w' => ∃ (x6_1 : Int) (x7_1 : Int) (x13_1 : Int),v6 = .int .i64 x6_1 ∧ v7 = .int .i64 x7_1 ∧ v13 = .int .i64 x13_1 ∧ a_a (a_l.l0 kq a1 x6_1 x7_1 l0_0 (l0_0.length : Int) x13_1 = some (r1,r2)) ∧ a_a (kq ≤ k) ∧ a_a (w'.heap[h_a]? = some (.cells #[(.slice A0_0 l0_0.length c0_0)] 26 (0,0))) ∧ a_a (Below w.heap.size w w'))
 case atStart => exact ⟨(0),(0),(0),(by first|rfl|(simp;done)|(simp [*];done)),(by first|rfl|(simp;done)|(simp [*];done)),(by first|rfl|(simp;done)|(simp [*];done)),H',⟨Nat.le_refl _⟩,⟨by (with_reducible repeat (first|refine a_u ?_ _|refine a_t ?_|refine a_w ?_ _));exact f_K.out⟩,⟨by repeat (first|(with_reducible first|exact HB.out|apply a_f|apply a_d|apply a_g|refine a_c ?_ g_m.out)|exact HB.out)⟩⟩
 case round =>
  clear H'
  try clear c2
  try clear p2
  try clear i_A
  try clear i_B
  obtain ⟨x6_1,x7_1,x13_1,rfl,rfl,rfl,HA,HK1,f_K,HB⟩:=hrel
  cases gk with
  | zero => exact absurd HA.out (by simp [a_l.l0])
  | succ k1 =>
   have H:=HA.out
   clear HA
   simp only [a_l.l0] at H
   by_cases c5 : x13_1 < (l0_0.length : Int)
   rotate_left
   ·rw [if_neg c5] at H
    have c5b0 : decide (x13_1 < (l0_0.length : Int)) = false:=decide_eq_false c5
    clear c5
    by_cases c10 : x7_1 = 1
    ·rw [if_pos c10] at H
     have c10b0 : (x7_1 == 1) = true:=beq_iff_eq.mpr c10
     have c10b1 : (x7_1 != 1) = false:=bne_eq_false_iff_eq.mpr c10
     clear c10
     simp only [Option.some.injEq,Prod.mk.injEq] at H
     obtain ⟨rfl,rfl⟩:=H
     go_wp2
     go_ret2
     exact ⟨by first|rfl|(simp [a_z,a_A] <;> rfl)|(simp [*, a_z,a_A] <;> rfl),by repeat (first|(with_reducible first|exact HB.out|apply a_f|apply a_d|apply a_g|refine a_c ?_ g_m.out)|exact HB.out)⟩
    rw [if_neg c10] at H
    have c10b0 : (x7_1 == 1) = false:=beq_eq_false_iff_ne.mpr c10
    have c10b1 : (x7_1 != 1) = true:=bne_iff_ne.mpr c10
    simp only [Option.some.injEq,Prod.mk.injEq] at H
    obtain ⟨rfl,rfl⟩:=H
    go_wp2
    go_ret2
    exact ⟨by first|rfl|(simp [a_z,a_A] <;> rfl)|(simp [*, a_z,a_A] <;> rfl),by repeat (first|(with_reducible first|exact HB.out|apply a_f|apply a_d|apply a_g|refine a_c ?_ g_m.out)|exact HB.out)⟩
   rw [if_pos c5] at H
   have c5b0 : decide (x13_1 < (l0_0.length : Int)) = true:=decide_eq_true c5
   clear c5
   by_cases c6 : 0 ≤ x13_1
   rotate_left
   ·rw [if_neg c6] at H
    exact absurd H (by simp)
   rw [if_pos c6] at H
   have c6b0 : decide (0 ≤ x13_1) = true:=decide_eq_true c6
   clear c6
   by_cases c7 : x13_1 < (l0_0.length : Int)
   rotate_left
   ·rw [if_neg c7] at H
    exact absurd H (by simp)
   rw [if_pos c7] at H
   have c7b0 : decide (x13_1 < (l0_0.length : Int)) = true:=decide_eq_true c7
   clear c7
   replace H:=Option.bind_eq_some_iff.mp H
   obtain ⟨t176,A80,H⟩:=H
   replace H : (if t176 = true then (a_l.l0 k1 a1 x13_1 (wrap64 (x7_1 + 1)) l0_0 (l0_0.length : Int) (wrap64 (x13_1 + 1))) else (a_l.l0 k1 a1 x6_1 x7_1 l0_0 (l0_0.length : Int) (wrap64 (x13_1 + 1)))) = some (r1,r2):=H
   have A8:=a_a.mk A80
   clear A80
   by_cases c9 : t176 = true
   ·subst c9
    have H1 : (a_l.l0 k1 a1 x13_1 (wrap64 (x7_1 + 1)) l0_0 (l0_0.length : Int) (wrap64 (x13_1 + 1))) = some (r1,r2):=by rw [if_pos rfl] at H;exact H
    clear H
    have H:=H1
    clear H1
    have H':=a_a.mk H
    clear H
    have p175 : 0 ≤ (x13_1 : Int):=of_decide_eq_true (by first|(with_reducible assumption)|assumption)
    have q175 : x13_1 < (l0_0.length : Int):=of_decide_eq_true (by first|(with_reducible assumption)|assumption)
    obtain ⟨ad175,e175,c_1⟩:=Kd.b_w b_K.out x13_1 p175 q175
    cases e175
    replace c_1:=(HB.out.cell (World.block_lt_of_cell? w _ c_1)).trans c_1
    replace p175:=eq_true p175
    replace q175:=eq_true q175
    go_wp2_with (first|((with_reducible refine a_B (f:=43) rfl ?_);refine b_f (some 20) rfl rfl Try.func43 (by kernel_rfl) rfl #[.int .u32 (rd l0_0 x13_1),.int .i64 a1] rfl (by (try simp only [List.map_toArray,List.map_cons,List.map_nil]);first|done|rfl|(simp only [List.length_drop,List.length_take];rfl)) ?_;(with_reducible refine (b_o.calls (rd l0_0 x13_1) a1 true _ A8.out).mono ?_);rintro e w' ⟨rfl,⟨nd,rfl⟩⟩;refine ⟨_,rfl,?_⟩))
    go_roundg k1
    case measure => have:=HK1.out;omega
    case rel => exact ⟨(x13_1),(wrap64 (x7_1 + 1)),(wrap64 (x13_1 + 1)),(by first|rfl|(simp;done)|(simp [*];done)),(by first|rfl|(simp;done)|(simp [*];done)),(by first|rfl|(simp;done)|(simp [*];done)),H',⟨by have:=HK1.out;omega⟩,⟨by (with_reducible repeat (first|refine a_u ?_ _|refine a_t ?_|refine a_w ?_ _));exact f_K.out⟩,⟨by repeat (first|(with_reducible first|exact HB.out|apply a_f|apply a_d|apply a_g|refine a_c ?_ g_m.out)|exact HB.out)⟩⟩
   replace c9:=Bool.eq_false_iff.mpr c9
   subst c9
   have H1 : (a_l.l0 k1 a1 x6_1 x7_1 l0_0 (l0_0.length : Int) (wrap64 (x13_1 + 1))) = some (r1,r2):=by rw [if_neg (show ¬ (false = true) by decide)] at H;exact H
   clear H
   have H:=H1
   clear H1
   have H':=a_a.mk H
   clear H
   have p175 : 0 ≤ (x13_1 : Int):=of_decide_eq_true (by first|(with_reducible assumption)|assumption)
   have q175 : x13_1 < (l0_0.length : Int):=of_decide_eq_true (by first|(with_reducible assumption)|assumption)
   obtain ⟨ad175,e175,c_1⟩:=Kd.b_w b_K.out x13_1 p175 q175
   cases e175
   replace c_1:=(HB.out.cell (World.block_lt_of_cell? w _ c_1)).trans c_1
   replace p175:=eq_true p175
   replace q175:=eq_true q175
   go_wp2_with (first|((with_reducible refine a_B (f:=43) rfl ?_);refine b_f (some 20) rfl rfl Try.func43 (by kernel_rfl) rfl #[.int .u32 (rd l0_0 x13_1),.int .i64 a1] rfl (by (try simp only [List.map_toArray,List.map_cons,List.map_nil]);first|done|rfl|(simp only [List.length_drop,List.length_take];rfl)) ?_;(with_reducible refine (b_o.calls (rd l0_0 x13_1) a1 false _ A8.out).mono ?_);rintro e w' ⟨rfl,⟨nd,rfl⟩⟩;refine ⟨_,rfl,?_⟩))
   go_roundg k1
   case measure => have:=HK1.out;omega
   case rel => exact ⟨(x6_1),(x7_1),(wrap64 (x13_1 + 1)),(by first|rfl|(simp;done)|(simp [*];done)),(by first|rfl|(simp;done)|(simp [*];done)),(by first|rfl|(simp;done)|(simp [*];done)),H',⟨by have:=HK1.out;omega⟩,⟨by (with_reducible repeat (first|refine a_u ?_ _|refine a_t ?_|refine a_w ?_ _));exact f_K.out⟩,⟨by repeat (first|(with_reducible first|exact HB.out|apply a_f|apply a_d|apply a_g|refine a_c ?_ g_m.out)|exact HB.out)⟩⟩
end Go.Proofs.Ytkhbffjfclepfaa.Q
end
section
namespace Go.Proofs.Ytkhbffjfclepfaa.Q
open Go.RowKit Go.Proofs.YtkhbffjfclepfaaW.PrintWords Go.Proofs.YtkhbffjfclepfaaW.PrintLast Go.Proofs.YtkhbffjfclepfaaW.PrintMore
set_option linter.unusedVariables false
set_option linter.unusedSimpArgs false
def b_s.f (a0 : Int) : Option (Bool):=some (decide (a0 < 256))
set_option maxHeartbeats 8000000 in
set_option maxRecDepth 100000 in
theorem b_s.calls (a0 : Int) (r : Bool) (w : World) (h : b_s.f a0 = some r) :
 Calls Try.prog 36 #[.int .u32 a0] w fun e w' => e = .returned (.bool r) ∧ b_g w w':=by
 have H : (some (decide (a0 < 256))) = some r:=h
 clear h
 obtain rfl:=Option.some.inj H
 go_enter Try.func36,Try.ntmps36
 go_wp2
 go_ret
 exact ⟨by first|rfl|(simp;done)|(simp [*];done),by repeat (first|exact b_g.refl _|apply b_g.step)⟩
end Go.Proofs.Ytkhbffjfclepfaa.Q
end
section
namespace Go.Proofs.Ytkhbffjfclepfaa.Q
open Go.RowKit Go.Proofs.YtkhbffjfclepfaaW.PrintWords Go.Proofs.YtkhbffjfclepfaaW.PrintLast Go.Proofs.YtkhbffjfclepfaaW.PrintMore
set_option linter.unusedVariables false
set_option linter.unusedSimpArgs false
def a_q.l0 : Nat → Int → List Int → Int → Option (List Int)
 | 0,_,_,_ => none
 | k + 1,x0,x3,x5 => if x5 < 8 then ((b_o.f x0 x5).bind fun t177 => (if t177 = true then (if x3.length < 17592186044416 then (a_q.l0 k x0 (x3 ++ [x5]) (wrap64 (x5 + 1))) else (none)) else (a_q.l0 k x0 x3 (wrap64 (x5 + 1))))) else (some x3)
def a_q.f (k : Nat) (a0 : Int) : Option (List Int):=a_q.l0 k a0 ([] : List Int) 0
theorem a_q.b_X : ∀ k,(∀ y0 y1 y2,LeO (a_q.l0 k y0 y1 y2) (a_q.l0 (k + 1) y0 y1 y2))
 | 0 => fun _ _ _ r h => by simp [a_q.l0] at h
 | k + 1 => by
  have ih0:=a_q.b_X k
  ·intro y0 y1 y2
   unfold a_q.l0
   repeat' first
   | (with_reducible exact ih0 _ _ _)
   | (with_reducible exact LeO.refl _)
   | (with_reducible exact LeO.none _)
   | (with_reducible refine LeO.ite ?_ ?_)
   | (with_reducible refine LeO.bind ?_ (fun _ => ?_))
   | exact ih0 _ _ _
   | exact LeO.none _
   | refine LeO.ite ?_ ?_
   | refine LeO.bind ?_ (fun _ => ?_)
theorem a_q.mono : ∀ a0 k,LeO (a_q.f k a0) (a_q.f (k + 1) a0):=by
 intro a0 k
 have ih0:=a_q.b_X k
 unfold a_q.f
 repeat' first
  | (with_reducible exact ih0 _ _ _)
  | (with_reducible exact LeO.refl _)
  | (with_reducible exact LeO.none _)
  | (with_reducible refine LeO.ite ?_ ?_)
  | (with_reducible refine LeO.bind ?_ (fun _ => ?_))
  | exact ih0 _ _ _
  | exact LeO.none _
  | refine LeO.ite ?_ ?_
  | refine LeO.bind ?_ (fun _ => ?_)
set_option maxHeartbeats 8000000 in
set_option maxRecDepth 100000 in
theorem a_q.calls (k : Nat) (a0 : Int) (r : List Int) (w : World) (h : a_q.f k a0 = some r) :
 Calls Try.prog 37 #[.int .u32 a0] w fun e w' => ∃ v0_ : Value,e = .returned (v0_) ∧ Kd.R (Kd.int .i64) 3 w' w.heap.size (fun _ => True) v0_ r ∧ Below w.heap.size w w':=by
 have HB:=a_a.mk (Below.refl w.heap.size w)
 have H : (a_q.l0 k a0 ([] : List Int) 0) = some r:=h
 clear h
 have H':=a_a.mk H
 clear H
 go_enter Try.func37,Try.ntmps37
 go_wp2
 go_loopg [3,5] k (fun kq v3 v5 w' => ∃ (x3_1 : List Int) (x5_1 : Int),v5 = .int .i64 x5_1 ∧ a_a (a_q.l0 kq a0 x3_1 x5_1 = some r) ∧ a_a (kq ≤ k) ∧ a_a (Kd.R (Kd.int .i64) 3 w' w.heap.size (fun _ => True) v3 x3_1) ∧ a_a (Below w.heap.size w w'))
 case atStart => exact ⟨(([] : List Int)),(0),(by first|rfl|(simp;done)|(simp [*];done)),H',⟨Nat.le_refl _⟩,⟨by first|exact Kd.d_L _ _ _ _ _|exact Kd.h_t _ _ _ _ _|exact Kd.h_k _ _ _ _ _|exact Kd.h_q _ _ _ _ _|exact Kd.h_C _ _ _ _ _⟩,⟨by repeat (first|(with_reducible first|exact HB.out|apply a_f|apply a_d|apply a_g)|exact HB.out)⟩⟩
 case round =>
  clear H'
  obtain ⟨x3_1,x5_1,rfl,HA,HK1,HO_3,HB⟩:=hrel
  cases gk with
  | zero => exact absurd HA.out (by simp [a_q.l0])
  | succ k1 =>
   have H:=HA.out
   clear HA
   simp only [a_q.l0] at H
   by_cases c2 : x5_1 < 8
   rotate_left
   ·rw [if_neg c2] at H
    have c2b0 : decide (x5_1 < 8) = false:=decide_eq_false c2
    clear c2
    obtain rfl:=Option.some.inj H
    go_wp2
    go_ret
    exact ⟨_,by first|rfl|(simp [a_z,a_A] <;> rfl)|(simp [*, a_z,a_A] <;> rfl),by (with_reducible repeat (first|apply Kd.a_5|apply Kd.a_1|apply Kd.a_0));exact HO_3.out,by repeat (first|(with_reducible first|exact HB.out|apply a_f|apply a_d|apply a_g)|exact HB.out)⟩
   rw [if_pos c2] at H
   have c2b0 : decide (x5_1 < 8) = true:=decide_eq_true c2
   clear c2
   replace H:=Option.bind_eq_some_iff.mp H
   obtain ⟨t177,A30,H⟩:=H
   replace H : (if t177 = true then (if x3_1.length < 17592186044416 then (a_q.l0 k1 a0 (x3_1 ++ [x5_1]) (wrap64 (x5_1 + 1))) else (none)) else (a_q.l0 k1 a0 x3_1 (wrap64 (x5_1 + 1)))) = some r:=H
   have A3:=a_a.mk A30
   clear A30
   by_cases c4 : t177 = true
   rotate_left
   ·replace c4:=Bool.eq_false_iff.mpr c4
    subst c4
    have H1 : (a_q.l0 k1 a0 x3_1 (wrap64 (x5_1 + 1))) = some r:=by rw [if_neg (show ¬ (false = true) by decide)] at H;exact H
    clear H
    have H:=H1
    clear H1
    have H':=a_a.mk H
    clear H
    go_wp2_with (first|((with_reducible refine a_B (f:=43) rfl ?_);refine b_f (some 10) rfl rfl Try.func43 (by kernel_rfl) rfl #[.int .u32 a0,.int .i64 x5_1] rfl (by (try simp only [List.map_toArray,List.map_cons,List.map_nil]);first|done|rfl|(simp only [List.length_drop,List.length_take];rfl)) ?_;(with_reducible refine (b_o.calls a0 x5_1 false _ A3.out).mono ?_);rintro e w' ⟨rfl,⟨nd,rfl⟩⟩;refine ⟨_,rfl,?_⟩))
    go_roundg k1
    case measure => have:=HK1.out;omega
    case rel => exact ⟨(x3_1),(wrap64 (x5_1 + 1)),(by first|rfl|(simp;done)|(simp [*];done)),H',⟨by have:=HK1.out;omega⟩,⟨by (with_reducible repeat (first|apply Kd.a_5|apply Kd.a_1|apply Kd.a_0));exact HO_3.out⟩,⟨by repeat (first|(with_reducible first|exact HB.out|apply a_f|apply a_d|apply a_g)|exact HB.out)⟩⟩
   subst c4
   have H1 : (if x3_1.length < 17592186044416 then (a_q.l0 k1 a0 (x3_1 ++ [x5_1]) (wrap64 (x5_1 + 1))) else (none)) = some r:=by rw [if_pos rfl] at H;exact H
   clear H
   have H:=H1
   clear H1
   by_cases c5 : x3_1.length < 17592186044416
   rotate_left
   ·rw [if_neg c5] at H
    exact absurd H (by simp)
   rw [if_pos c5] at H
   have LMc5:=a_a.mk c5
   clear c5
   obtain ⟨y178,hy178⟩ : ∃ y_ : List Int,y_ = (x3_1 ++ [x5_1]):=⟨_,rfl⟩
   replace H : (a_q.l0 k1 a0 y178 (wrap64 (x5_1 + 1))) = some r:=by first|(rw [hy178];with_reducible exact H)|(have H2_:=(Option.bind_some _ _).symm.trans H;rw [hy178];with_reducible exact H2_)|(have H2_:=(Option.bind_some _ _).symm.trans H;with_reducible exact H2_)|with_reducible exact H|(rw [hy178];exact H)|exact H
   have Ny178:=a_a.mk hy178
   clear hy178
   have H':=a_a.mk H
   clear H
   go_wp2_with (first|((with_reducible refine a_B (f:=43) rfl ?_);refine b_f (some 10) rfl rfl Try.func43 (by kernel_rfl) rfl #[.int .u32 a0,.int .i64 x5_1] rfl (by (try simp only [List.map_toArray,List.map_cons,List.map_nil]);first|done|rfl|(simp only [List.length_drop,List.length_take];rfl)) ?_;(with_reducible refine (b_o.calls a0 x5_1 true _ A3.out).mono ?_);rintro e w' ⟨rfl,⟨nd,rfl⟩⟩;refine ⟨_,rfl,?_⟩)|((with_reducible refine c_N (b:=.append) (xs:=#[.tmp 11,.tmp 13]) rfl ?_);at_builtin;refine Kd.g_5 (Kd.int .i64) (w0:=w) w.heap.size rfl (.tmp 11) (.tmp 13) 22 3 (.int .i64 0) 8 rfl Try.underlying22 info3 rfl (by decide) (by omega) u3 x3_1 x5_1 [.int .i64 x5_1] (fun _ => True) (fun _ => False) rfl rfl ?aP (fun _ hk => hk.elim) ?aF ?aO ?aB ?aS ?aL ?_;(case aP => exact rfl);(case aB => exact (lup_ HB.out));(case aF => exact (fun _ _ => trivial));(case aO => exact (rup_ HO_3.out));(case aS => exact (a_m (lup_ HB.out)));(case aL => have:=LMc5.out;omega);intro v179 w6 ho hb hg hat;rw [← Ny178.out] at ho;have k_d:=a_a.mk (ho);replace HB:=a_a.mk (hb);clear HO_3 ho hb hg hat))
   go_roundg k1
   case measure => have:=HK1.out;omega
   case rel => exact ⟨(y178),(wrap64 (x5_1 + 1)),(by first|rfl|(simp;done)|(simp [*];done)),H',⟨by have:=HK1.out;omega⟩,⟨by (with_reducible repeat (first|apply Kd.a_5|apply Kd.a_1|apply Kd.a_0));exact k_d.out⟩,⟨by repeat (first|(with_reducible first|exact HB.out|apply a_f|apply a_d|apply a_g)|exact HB.out)⟩⟩
end Go.Proofs.Ytkhbffjfclepfaa.Q
end
section
namespace Go.Proofs.Ytkhbffjfclepfaa.Q
open Go.RowKit Go.Proofs.YtkhbffjfclepfaaW.PrintWords Go.Proofs.YtkhbffjfclepfaaW.PrintLast Go.Proofs.YtkhbffjfclepfaaW.PrintMore
set_option linter.unusedVariables false
set_option linter.unusedSimpArgs false
mutual
def a_h.j0 : Nat → Bool → List Int → Option (Bool)
 | 0,_,_ => none
 | k + 1,x18,x182000 => if x18 = true then (some false) else (a_h.l0 k 0 x182000 (x182000.length : Int) 0 x182000)
def a_h.l0 : Nat → Int → List Int → Int → Int → List Int → Option (Bool)
 | 0,_,_,_,_,_ => none
 | k + 1,x3,x20,x21,x22,x182000 => if x22 < x21 then (if 0 ≤ x22 then (if x22 < (x20.length : Int) then ((b_s.f (rd x20 x22)).bind fun t183 => (if t183 = true then (if (rd x20 x22) = 0 then (some false) else ((a_q.f k (rd x20 x22)).bind fun t184 => (a_h.l0 k (wrap64 (x3 + (t184.length : Int))) x20 x21 (wrap64 (x22 + 1)) x182000))) else (some false))) else (none)) else (none)) else (a_h.l1 k x3 0 x182000)
def a_h.l1 : Nat → Int → Int → List Int → Option (Bool)
 | 0,_,_,_ => none
 | k + 1,x39,x40,x182000 => if x40 < x39 then ((a_l.f k x182000 x40).bind fun bt187 => (if bt187.2 = true then (a_h.l1 k x39 (wrap64 (x40 + 1)) x182000) else (some false))) else (some true)
end
def a_h.f (k : Nat) (l0_0 : List Int) : Option (Bool):=if (l0_0.length : Int) < 1 then (a_h.j0 k true l0_0) else (a_h.j0 k (decide ((l0_0.length : Int) > 4)) l0_0)
theorem a_h.b_X : ∀ k,(∀ y0 y1,LeO (a_h.j0 k y0 y1) (a_h.j0 (k + 1) y0 y1)) ∧ (∀ y0 y1 y2 y3 y4,LeO (a_h.l0 k y0 y1 y2 y3 y4) (a_h.l0 (k + 1) y0 y1 y2 y3 y4)) ∧ (∀ y0 y1 y2,LeO (a_h.l1 k y0 y1 y2) (a_h.l1 (k + 1) y0 y1 y2))
 | 0 => ⟨fun _ _ r h => by simp [a_h.j0] at h,fun _ _ _ _ _ r h => by simp [a_h.l0] at h,fun _ _ _ r h => by simp [a_h.l1] at h⟩
 | k + 1 => by
  obtain ⟨ih0,ih1,ih2⟩:=a_h.b_X k
  refine ⟨?_,?_,?_⟩
  ·intro y0 y1
   unfold a_h.j0
   repeat' first
   | (with_reducible exact ih0 _ _)
   | (with_reducible exact ih1 _ _ _ _ _)
   | (with_reducible exact ih2 _ _ _)
   | (with_reducible exact a_q.mono _ _)
   | (with_reducible exact a_l.mono _ _ _)
   | (with_reducible exact LeO.refl _)
   | (with_reducible exact LeO.none _)
   | (with_reducible refine LeO.ite ?_ ?_)
   | (with_reducible refine LeO.bind ?_ (fun _ => ?_))
   | exact ih0 _ _
   | exact ih1 _ _ _ _ _
   | exact ih2 _ _ _
   | exact a_q.mono _ _
   | exact a_l.mono _ _ _
   | exact LeO.none _
   | refine LeO.ite ?_ ?_
   | refine LeO.bind ?_ (fun _ => ?_)
  ·intro y0 y1 y2 y3 y4
   unfold a_h.l0
   repeat' first
   | (with_reducible exact ih0 _ _)
   | (with_reducible exact ih1 _ _ _ _ _)
   | (with_reducible exact ih2 _ _ _)
   | (with_reducible exact a_q.mono _ _)
   | (with_reducible exact a_l.mono _ _ _)
   | (with_reducible exact LeO.refl _)
   | (with_reducible exact LeO.none _)
   | (with_reducible refine LeO.ite ?_ ?_)
   | (with_reducible refine LeO.bind ?_ (fun _ => ?_))
   | exact ih0 _ _
   | exact ih1 _ _ _ _ _
   | exact ih2 _ _ _
   | exact a_q.mono _ _
   | exact a_l.mono _ _ _
   | exact LeO.none _
   | refine LeO.ite ?_ ?_
   | refine LeO.bind ?_ (fun _ => ?_)
  ·intro y0 y1 y2
   unfold a_h.l1
   repeat' first
   | (with_reducible exact ih0 _ _)
   | (with_reducible exact ih1 _ _ _ _ _)
   | (with_reducible exact ih2 _ _ _)
   | (with_reducible exact a_q.mono _ _)
   | (with_reducible exact a_l.mono _ _ _)
   | (with_reducible exact LeO.refl _)
   | (with_reducible exact LeO.none _)
   | (with_reducible refine LeO.ite ?_ ?_)
   | (with_reducible refine LeO.bind ?_ (fun _ => ?_))
   | exact ih0 _ _
   | exact ih1 _ _ _ _ _
   | exact ih2 _ _ _
   | exact a_q.mono _ _
   | exact a_l.mono _ _ _
   | exact LeO.none _
   | refine LeO.ite ?_ ?_
   | refine LeO.bind ?_ (fun _ => ?_)
theorem a_h.mono : ∀ a0 k,LeO (a_h.f k a0) (a_h.f (k + 1) a0):=by
 intro a0 k
 obtain ⟨ih0,ih1,ih2⟩:=a_h.b_X k
 unfold a_h.f
 repeat' first
  | (with_reducible exact ih0 _ _)
  | (with_reducible exact ih1 _ _ _ _ _)
  | (with_reducible exact ih2 _ _ _)
  | (with_reducible exact a_q.mono _ _)
  | (with_reducible exact a_l.mono _ _ _)
  | (with_reducible exact LeO.refl _)
  | (with_reducible exact LeO.none _)
  | (with_reducible refine LeO.ite ?_ ?_)
  | (with_reducible refine LeO.bind ?_ (fun _ => ?_))
  | exact ih0 _ _
  | exact ih1 _ _ _ _ _
  | exact ih2 _ _ _
  | exact a_q.mono _ _
  | exact a_l.mono _ _ _
  | exact LeO.none _
  | refine LeO.ite ?_ ?_
  | refine LeO.bind ?_ (fun _ => ?_)
set_option maxHeartbeats 8000000 in
set_option maxRecDepth 100000 in
theorem a_h.calls (k : Nat) (A0_0 : Option Addr) (c0_0 : Nat) (l0_0 : List Int) (r : Bool) (w : World) (hr0_0 : Kd.C (Kd.int .u32) w A0_0 l0_0.length l0_0) (hc0_0 : l0_0.length ≤ c0_0) (h : a_h.f k l0_0 = some r) :
 Calls Try.prog 16 #[.agg #[.slice A0_0 l0_0.length c0_0]] w fun e w' => e = .returned (.bool r) ∧ Below w.heap.size w w':=by
 have hu26:=Try.underlying26
 have b_K:=a_a.mk hr0_0
 have c_d:=a_a.mk hc0_0
 clear hr0_0 hc0_0
 have HB:=a_a.mk (Below.refl w.heap.size w)
 have H : (if (l0_0.length : Int) < 1 then (a_h.j0 k true l0_0) else (a_h.j0 k (decide ((l0_0.length : Int) > 4)) l0_0)) = some r:=h
 clear h
 have HC2:=a_a.mk H
 clear H
 go_enter Try.func16,Try.ntmps16
 go_upto_region 1 with (first|((with_reducible refine a_E (N:=1) rfl ?_);(try (refine b_G (by rfl) ?_;dsimp only));refine a_D ?hg (N:=1) ?hd (cs:=#[.slice A0_0 l0_0.length c0_0]) (t:=26) ?hr ?_;(case hd => rfl);(case hg => rfl);(case hr => first|(go_simp;done)|(go_simp;rfl));intro d_8 hg w3 hbox hb;have c_i:=a_a.mk (hbox);have l_v:=a_a.mk ((by rw [hg];exact (a_m (lup_ HB.out)) : w.heap.size ≤ d_8));have c_2:=a_a.mk ((by rw [hg];exact (a_m (lup_ HB.out)) : w.heap.size ≤ d_8));replace HB:=a_a.mk (a_i (lup_ HB.out) hb);clear hb hbox hg))
 (try simp only [Act.put,List.setIfInBounds_toArray,List.set_cons_zero,List.set_cons_succ])
 go_cut [18] (fun v18 wc => ∃ (kq : Nat) (x18_1 : Bool),v18 = .bool x18_1 ∧ a_a (a_h.j0 kq x18_1 l0_0 = some r) ∧ a_a (kq ≤ k) ∧ a_a (wc.heap[d_8]? = some (.cells #[(.slice A0_0 l0_0.length c0_0)] 26 (0,0))) ∧ a_a (Below w.heap.size w wc))
 case first =>
  have H:=HC2.out
  clear HC2
  by_cases c4 : (l0_0.length : Int) < 1
  ·rw [if_pos c4] at H
   have c4b0 : decide ((l0_0.length : Int) < 1) = true:=decide_eq_true c4
   have c4b1 : decide (l0_0.length < 1) = true:=decide_eq_true (by omega)
   clear c4
   (first|rw [c4b0]|(simp only [a_K,a_J];rw [c4b0])|skip)
   have H':=a_a.mk H
   clear H
   have d_i : w3.cell? ⟨d_8,0,none⟩ = some (.slice A0_0 l0_0.length c0_0):=(a_j c_i.out 0).trans rfl
   have d_j:=a_k c_i.out 0
   go_wp2
   go_meet
   case rel => exact ⟨_,(true),(by first|rfl|(simp;done)|(simp [*];done)),H',⟨by first|omega|exact Nat.le_refl _⟩,⟨by (with_reducible repeat (first|refine a_u ?_ _|refine a_t ?_|refine a_w ?_ _));exact c_i.out⟩,⟨by repeat (first|(with_reducible first|exact HB.out|apply a_f|apply a_d|apply a_g|refine a_c ?_ c_2.out)|exact HB.out)⟩⟩
  rw [if_neg c4] at H
  have c4b0 : decide ((l0_0.length : Int) < 1) = false:=decide_eq_false c4
  have c4b1 : decide (l0_0.length < 1) = false:=decide_eq_false (by omega)
  clear c4
  (first|rw [c4b0]|(simp only [a_K,a_J];rw [c4b0])|skip)
  have H':=a_a.mk H
  clear H
  have d_S : w3.cell? ⟨d_8,0,none⟩ = some (.slice A0_0 l0_0.length c0_0):=(a_j c_i.out 0).trans rfl
  have d_T:=a_k c_i.out 0
  go_wp2
  go_meet
  case rel => exact ⟨_,(decide ((l0_0.length : Int) > 4)),(by first|rfl|(simp;done)|(simp [*];done)),H',⟨by first|omega|exact Nat.le_refl _⟩,⟨by (with_reducible repeat (first|refine a_u ?_ _|refine a_t ?_|refine a_w ?_ _));exact c_i.out⟩,⟨by repeat (first|(with_reducible first|exact HB.out|apply a_f|apply a_d|apply a_g|refine a_c ?_ c_2.out)|exact HB.out)⟩⟩
 case rest =>
  clear HC2
  try clear c1
  try clear p2
  try clear c4
  try clear c4b0
  try clear c4b1
  try clear d_i
  try clear d_S
  try clear d_j
  try clear d_T
  obtain ⟨kq,x18_1,rfl,HA,HJ1,c_i,HB⟩:=hcut
  cases kq with
  | zero => exact absurd HA.out (by simp [a_h.j0])
  | succ kj1 =>
   have H:=HA.out
   clear HA
   simp only [a_h.j0] at H
   by_cases c7 : x18_1 = true
   ·subst c7
    have H1 : (some false) = some r:=by rw [if_pos rfl] at H;exact H
    clear H
    have H:=H1
    clear H1
    obtain rfl:=Option.some.inj H
    go_wp2
    go_ret
    exact ⟨by first|rfl|(simp [a_z,a_A] <;> rfl)|(simp [*, a_z,a_A] <;> rfl),by repeat (first|(with_reducible first|exact HB.out|apply a_f|apply a_d|apply a_g|refine a_c ?_ c_2.out)|exact HB.out)⟩
   replace c7:=Bool.eq_false_iff.mpr c7
   subst c7
   have H1 : (a_h.l0 kj1 0 l0_0 (l0_0.length : Int) 0 l0_0) = some r:=by rw [if_neg (show ¬ (false = true) by decide)] at H;exact H
   clear H
   have H:=H1
   clear H1
   have H':=a_a.mk H
   clear H
   have d_v : wc.cell? ⟨d_8,0,none⟩ = some (.slice A0_0 l0_0.length c0_0):=(a_j c_i.out 0).trans rfl
   have d_w:=a_k c_i.out 0
   go_wp2
   go_loopg [3,22] kj1 (fun kq v3 v22 w' => ∃ (x3_2 : Int) (x22_2 : Int),v3 = .int .i64 x3_2 ∧ v22 = .int .i64 x22_2 ∧ a_a (a_h.l0 kq x3_2 l0_0 (l0_0.length : Int) x22_2 l0_0 = some r) ∧ a_a (kq ≤ kj1) ∧ a_a (w'.heap[d_8]? = some (.cells #[(.slice A0_0 l0_0.length c0_0)] 26 (0,0))) ∧ a_a (Below w.heap.size w w'))
   case atStart => exact ⟨(0),(0),(by first|rfl|(simp;done)|(simp [*];done)),(by first|rfl|(simp;done)|(simp [*];done)),H',⟨Nat.le_refl _⟩,⟨by (with_reducible repeat (first|refine a_u ?_ _|refine a_t ?_|refine a_w ?_ _));exact c_i.out⟩,⟨by repeat (first|(with_reducible first|exact HB.out|apply a_f|apply a_d|apply a_g|refine a_c ?_ c_2.out)|exact HB.out)⟩⟩
   case round =>
    clear H'
    try clear c1
    try clear p2
    try clear c4
    try clear c4b0
    try clear c4b1
    try clear c7
    try clear d_i
    try clear d_S
    try clear d_v
    try clear d_j
    try clear d_T
    try clear d_w
    try clear p2
    obtain ⟨x3_2,x22_2,rfl,rfl,HA,HK2,c_i,HB⟩:=hrel
    cases gk with
    | zero => exact absurd HA.out (by simp [a_h.l0])
    | succ k2 =>
     have H:=HA.out
     clear HA
     simp only [a_h.l0] at H
     by_cases c9 : x22_2 < (l0_0.length : Int)
     ·rw [if_pos c9] at H
      have c9b0 : decide (x22_2 < (l0_0.length : Int)) = true:=decide_eq_true c9
      clear c9
      by_cases c10 : 0 ≤ x22_2
      rotate_left
      ·rw [if_neg c10] at H
       exact absurd H (by simp)
      rw [if_pos c10] at H
      have c10b0 : decide (0 ≤ x22_2) = true:=decide_eq_true c10
      clear c10
      by_cases c11 : x22_2 < (l0_0.length : Int)
      rotate_left
      ·rw [if_neg c11] at H
       exact absurd H (by simp)
      rw [if_pos c11] at H
      have c11b0 : decide (x22_2 < (l0_0.length : Int)) = true:=decide_eq_true c11
      clear c11
      replace H:=Option.bind_eq_some_iff.mp H
      obtain ⟨t183,A120,H⟩:=H
      replace H : (if t183 = true then (if (rd l0_0 x22_2) = 0 then (some false) else ((a_q.f k2 (rd l0_0 x22_2)).bind fun t184 => (a_h.l0 k2 (wrap64 (x3_2 + (t184.length : Int))) l0_0 (l0_0.length : Int) (wrap64 (x22_2 + 1)) l0_0))) else (some false)) = some r:=H
      have A12:=a_a.mk A120
      clear A120
      by_cases c13 : t183 = true
      rotate_left
      ·replace c13:=Bool.eq_false_iff.mpr c13
       subst c13
       have H1 : (some false) = some r:=by rw [if_neg (show ¬ (false = true) by decide)] at H;exact H
       clear H
       have H:=H1
       clear H1
       obtain rfl:=Option.some.inj H
       have p182 : 0 ≤ (x22_2 : Int):=of_decide_eq_true (by first|(with_reducible assumption)|assumption)
       have q182 : x22_2 < (l0_0.length : Int):=of_decide_eq_true (by first|(with_reducible assumption)|assumption)
       obtain ⟨ad182,e182,c_j⟩:=Kd.b_w b_K.out x22_2 p182 q182
       cases e182
       replace c_j:=(HB.out.cell (World.block_lt_of_cell? w _ c_j)).trans c_j
       replace p182:=eq_true p182
       replace q182:=eq_true q182
       go_wp2_with (first|((with_reducible refine a_B (f:=36) rfl ?_);refine b_f (some 27) rfl rfl Try.func36 (by kernel_rfl) rfl #[.int .u32 (rd l0_0 x22_2)] rfl (by (try simp only [List.map_toArray,List.map_cons,List.map_nil]);first|done|rfl|(simp only [List.length_drop,List.length_take];rfl)) ?_;(with_reducible refine (b_s.calls (rd l0_0 x22_2) false _ A12.out).mono ?_);rintro e w' ⟨rfl,⟨nd,rfl⟩⟩;refine ⟨_,rfl,?_⟩))
       go_ret
       exact ⟨by first|rfl|(simp [a_z,a_A] <;> rfl)|(simp [*, a_z,a_A] <;> rfl),by repeat (first|(with_reducible first|exact HB.out|apply a_f|apply a_d|apply a_g|refine a_c ?_ c_2.out)|exact HB.out)⟩
      subst c13
      have H1 : (if (rd l0_0 x22_2) = 0 then (some false) else ((a_q.f k2 (rd l0_0 x22_2)).bind fun t184 => (a_h.l0 k2 (wrap64 (x3_2 + (t184.length : Int))) l0_0 (l0_0.length : Int) (wrap64 (x22_2 + 1)) l0_0))) = some r:=by rw [if_pos rfl] at H;exact H
      clear H
      have H:=H1
      clear H1
      by_cases c14 : (rd l0_0 x22_2) = 0
      ·rw [if_pos c14] at H
       have c14b0 : ((rd l0_0 x22_2) == 0) = true:=beq_iff_eq.mpr c14
       have c14b1 : ((rd l0_0 x22_2) != 0) = false:=bne_eq_false_iff_eq.mpr c14
       clear c14
       obtain rfl:=Option.some.inj H
       have p182 : 0 ≤ (x22_2 : Int):=of_decide_eq_true (by first|(with_reducible assumption)|assumption)
       have q182 : x22_2 < (l0_0.length : Int):=of_decide_eq_true (by first|(with_reducible assumption)|assumption)
       obtain ⟨ad182,e182,c_j⟩:=Kd.b_w b_K.out x22_2 p182 q182
       cases e182
       replace c_j:=(HB.out.cell (World.block_lt_of_cell? w _ c_j)).trans c_j
       replace p182:=eq_true p182
       replace q182:=eq_true q182
       go_wp2_with (first|((with_reducible refine a_B (f:=36) rfl ?_);refine b_f (some 27) rfl rfl Try.func36 (by kernel_rfl) rfl #[.int .u32 (rd l0_0 x22_2)] rfl (by (try simp only [List.map_toArray,List.map_cons,List.map_nil]);first|done|rfl|(simp only [List.length_drop,List.length_take];rfl)) ?_;(with_reducible refine (b_s.calls (rd l0_0 x22_2) true _ A12.out).mono ?_);rintro e w' ⟨rfl,⟨nd,rfl⟩⟩;refine ⟨_,rfl,?_⟩))
       go_ret
       exact ⟨by first|rfl|(simp [a_z,a_A] <;> rfl)|(simp [*, a_z,a_A] <;> rfl),by repeat (first|(with_reducible first|exact HB.out|apply a_f|apply a_d|apply a_g|refine a_c ?_ c_2.out)|exact HB.out)⟩
      rw [if_neg c14] at H
      have c14b0 : ((rd l0_0 x22_2) == 0) = false:=beq_eq_false_iff_ne.mpr c14
      have c14b1 : ((rd l0_0 x22_2) != 0) = true:=bne_iff_ne.mpr c14
      replace H:=Option.bind_eq_some_iff.mp H
      obtain ⟨t184,A150,H⟩:=H
      replace H : (a_h.l0 k2 (wrap64 (x3_2 + (t184.length : Int))) l0_0 (l0_0.length : Int) (wrap64 (x22_2 + 1)) l0_0) = some r:=H
      have A15:=a_a.mk A150
      clear A150
      have H':=a_a.mk H
      clear H
      have p182 : 0 ≤ (x22_2 : Int):=of_decide_eq_true (by first|(with_reducible assumption)|assumption)
      have q182 : x22_2 < (l0_0.length : Int):=of_decide_eq_true (by first|(with_reducible assumption)|assumption)
      obtain ⟨ad182,e182,c_j⟩:=Kd.b_w b_K.out x22_2 p182 q182
      cases e182
      replace c_j:=(HB.out.cell (World.block_lt_of_cell? w _ c_j)).trans c_j
      replace p182:=eq_true p182
      replace q182:=eq_true q182
      go_wp2_with (first|((with_reducible refine a_B (f:=36) rfl ?_);refine b_f (some 27) rfl rfl Try.func36 (by kernel_rfl) rfl #[.int .u32 (rd l0_0 x22_2)] rfl (by (try simp only [List.map_toArray,List.map_cons,List.map_nil]);first|done|rfl|(simp only [List.length_drop,List.length_take];rfl)) ?_;(with_reducible refine (b_s.calls (rd l0_0 x22_2) true _ A12.out).mono ?_);rintro e w' ⟨rfl,⟨nd,rfl⟩⟩;refine ⟨_,rfl,?_⟩)|((with_reducible refine a_B (f:=37) rfl ?_);refine b_f (some 35) rfl rfl Try.func37 (by kernel_rfl) rfl #[.int .u32 (rd l0_0 x22_2)] rfl (by (try simp only [List.map_toArray,List.map_cons,List.map_nil]);first|done|rfl|(simp only [List.length_drop,List.length_take];rfl)) ?_;(with_reducible refine (a_q.calls k2 (rd l0_0 x22_2) t184 _ A15.out).mono ?_);rintro e w16 ⟨v185,rfl,ho0,hb⟩;refine ⟨_,rfl,?_⟩;have k_e:=a_a.mk (Kd.b_y ho0 (a_m (by repeat (first|(with_reducible first|exact HB.out|apply a_f|apply a_d|apply a_g|refine a_c ?_ c_2.out)|exact HB.out))));replace c_i:=a_a.mk (a_e (bup_ c_i.out) hb);replace HB:=a_a.mk (a_i (by repeat (first|(with_reducible first|exact HB.out|apply a_f|apply a_d|apply a_g|refine a_c ?_ c_2.out)|exact HB.out)) hb);(try clear hb);(try clear hb2);(try clear hk);(try clear hi);(try clear ho0);obtain ⟨Ao17,co17,eo17⟩:=Kd.b_D k_e.out;subst eo17))
      go_roundg k2
      case measure => have:=HJ1.out;have:=HK2.out;omega
      case rel => exact ⟨(wrap64 (x3_2 + (t184.length : Int))),(wrap64 (x22_2 + 1)),(by first|rfl|(simp;done)|(simp [*];done)),(by first|rfl|(simp;done)|(simp [*];done)),H',⟨by have:=HJ1.out;have:=HK2.out;omega⟩,⟨by (with_reducible repeat (first|refine a_u ?_ _|refine a_t ?_|refine a_w ?_ _));exact c_i.out⟩,⟨by repeat (first|(with_reducible first|exact HB.out|apply a_f|apply a_d|apply a_g|refine a_c ?_ c_2.out)|exact HB.out)⟩⟩
     rw [if_neg c9] at H
     have c9b0 : decide (x22_2 < (l0_0.length : Int)) = false:=decide_eq_false c9
     clear c9
     have H':=a_a.mk H
     clear H
     go_wp2
     go_loopg [40] k2 (fun kq v40 w' => ∃ (x40_3 : Int),v40 = .int .i64 x40_3 ∧ a_a (a_h.l1 kq x3_2 x40_3 l0_0 = some r) ∧ a_a (kq ≤ k2) ∧ a_a (w'.heap[d_8]? = some (.cells #[(.slice A0_0 l0_0.length c0_0)] 26 (0,0))) ∧ a_a (Below w.heap.size w w'))
     case atStart => exact ⟨(0),(by first|rfl|(simp;done)|(simp [*];done)),H',⟨Nat.le_refl _⟩,⟨by (with_reducible repeat (first|refine a_u ?_ _|refine a_t ?_|refine a_w ?_ _));exact c_i.out⟩,⟨by repeat (first|(with_reducible first|exact HB.out|apply a_f|apply a_d|apply a_g|refine a_c ?_ c_2.out)|exact HB.out)⟩⟩
     case round =>
      clear H'
      try clear c1
      try clear p1
      try clear q1
      try clear hx1
      try clear p2
      try clear c3
      try clear c4
      try clear c4b0
      try clear c4b1
      try clear p6
      try clear c7
      try clear c9
      try clear c9b0
      try clear c10
      try clear c10b0
      try clear c11
      try clear c11b0
      try clear c13
      try clear c14
      try clear c14b0
      try clear c14b1
      try clear c16
      try clear d_i
      try clear d_S
      try clear d_v
      try clear d_j
      try clear d_T
      try clear d_w
      try clear c_j
      try clear p182
      try clear p2
      try clear q182
      obtain ⟨x40_3,rfl,HA,HK3,c_i,HB⟩:=hrel
      cases gk with
      | zero => exact absurd HA.out (by simp [a_h.l1])
      | succ k3 =>
       have H:=HA.out
       clear HA
       simp only [a_h.l1] at H
       by_cases c18 : x40_3 < x3_2
       rotate_left
       ·rw [if_neg c18] at H
        have c18b0 : decide (x40_3 < x3_2) = false:=decide_eq_false c18
        clear c18
        obtain rfl:=Option.some.inj H
        go_wp2
        go_ret
        exact ⟨by first|rfl|(simp [a_z,a_A] <;> rfl)|(simp [*, a_z,a_A] <;> rfl),by repeat (first|(with_reducible first|exact HB.out|apply a_f|apply a_d|apply a_g|refine a_c ?_ c_2.out)|exact HB.out)⟩
       rw [if_pos c18] at H
       have c18b0 : decide (x40_3 < x3_2) = true:=decide_eq_true c18
       clear c18
       replace H:=Option.bind_eq_some_iff.mp H
       obtain ⟨⟨t187,t188⟩,A190,H⟩:=H
       replace H : (if t188 = true then (a_h.l1 k3 x3_2 (wrap64 (x40_3 + 1)) l0_0) else (some false)) = some r:=H
       have A19:=a_a.mk A190
       clear A190
       by_cases c20 : t188 = true
       ·subst c20
        have H1 : (a_h.l1 k3 x3_2 (wrap64 (x40_3 + 1)) l0_0) = some r:=by rw [if_pos rfl] at H;exact H
        clear H
        have H:=H1
        clear H1
        have H':=a_a.mk H
        clear H
        have g_n : wr.cell? ⟨d_8,0,none⟩ = some (.slice A0_0 l0_0.length c0_0):=(a_j c_i.out 0).trans rfl
        have g_o:=a_k c_i.out 0
        go_wp2_with (first|((with_reducible refine a_B (f:=21) rfl ?_);refine b_f (some 46) rfl rfl Try.func21 (by kernel_rfl) rfl #[.agg #[.slice A0_0 l0_0.length c0_0],.int .i64 x40_3] rfl (by (try simp only [List.map_toArray,List.map_cons,List.map_nil]);first|done|rfl|(simp only [List.length_drop,List.length_take];rfl)) ?_;(with_reducible refine (a_l.calls k3 _ _ l0_0 x40_3 t187 true _ ?side1 ?side2 A19.out).mono ?_);(case side1 => repeat (first|exact (Kd.a_8 b_K.out HB.out)|(with_reducible refine Kd.a_M ?_ _)|(with_reducible refine Kd.a_N ?_ _)|(with_reducible refine Kd.a_T ?_)));(case side2 => exact c_d.out);rintro e w22 ⟨rfl,hb⟩;refine ⟨_,rfl,?_⟩;replace c_i:=a_a.mk (a_e (bup_ c_i.out) hb);replace HB:=a_a.mk (a_i (by repeat (first|(with_reducible first|exact HB.out|apply a_f|apply a_d|apply a_g|refine a_c ?_ c_2.out)|exact HB.out)) hb);(try clear hb);(try clear hb2);(try clear hk);(try clear hi)))
        go_roundg k3
        case measure => have:=HJ1.out;have:=HK2.out;have:=HK3.out;omega
        case rel => exact ⟨(wrap64 (x40_3 + 1)),(by first|rfl|(simp;done)|(simp [*];done)),H',⟨by have:=HJ1.out;have:=HK2.out;have:=HK3.out;omega⟩,⟨by (with_reducible repeat (first|refine a_u ?_ _|refine a_t ?_|refine a_w ?_ _));exact c_i.out⟩,⟨by repeat (first|(with_reducible first|exact HB.out|apply a_f|apply a_d|apply a_g|refine a_c ?_ c_2.out)|exact HB.out)⟩⟩
       replace c20:=Bool.eq_false_iff.mpr c20
       subst c20
       have H1 : (some false) = some r:=by rw [if_neg (show ¬ (false = true) by decide)] at H;exact H
       clear H
       have H:=H1
       clear H1
       obtain rfl:=Option.some.inj H
       have e_9 : wr.cell? ⟨d_8,0,none⟩ = some (.slice A0_0 l0_0.length c0_0):=(a_j c_i.out 0).trans rfl
       have f_a:=a_k c_i.out 0
       go_wp2_with (first|((with_reducible refine a_B (f:=21) rfl ?_);refine b_f (some 46) rfl rfl Try.func21 (by kernel_rfl) rfl #[.agg #[.slice A0_0 l0_0.length c0_0],.int .i64 x40_3] rfl (by (try simp only [List.map_toArray,List.map_cons,List.map_nil]);first|done|rfl|(simp only [List.length_drop,List.length_take];rfl)) ?_;(with_reducible refine (a_l.calls k3 _ _ l0_0 x40_3 t187 false _ ?side1 ?side2 A19.out).mono ?_);(case side1 => repeat (first|exact (Kd.a_8 b_K.out HB.out)|(with_reducible refine Kd.a_M ?_ _)|(with_reducible refine Kd.a_N ?_ _)|(with_reducible refine Kd.a_T ?_)));(case side2 => exact c_d.out);rintro e w24 ⟨rfl,hb⟩;refine ⟨_,rfl,?_⟩;replace c_i:=a_a.mk (a_e (bup_ c_i.out) hb);replace HB:=a_a.mk (a_i (by repeat (first|(with_reducible first|exact HB.out|apply a_f|apply a_d|apply a_g|refine a_c ?_ c_2.out)|exact HB.out)) hb);(try clear hb);(try clear hb2);(try clear hk);(try clear hi)))
       go_ret
       exact ⟨by first|rfl|(simp [a_z,a_A] <;> rfl)|(simp [*, a_z,a_A] <;> rfl),by repeat (first|(with_reducible first|exact HB.out|apply a_f|apply a_d|apply a_g|refine a_c ?_ c_2.out)|exact HB.out)⟩
end Go.Proofs.Ytkhbffjfclepfaa.Q
end
section
namespace Go.Proofs.Ytkhbffjfclepfaa.Q
open Go.RowKit Go.Proofs.YtkhbffjfclepfaaW.PrintWords Go.Proofs.YtkhbffjfclepfaaW.PrintLast Go.Proofs.YtkhbffjfclepfaaW.PrintMore
set_option linter.unusedVariables false
set_option linter.unusedSimpArgs false
def b_h.f (a0 : Int) : Option (Int):=if (Go.bits .andNot .u32 a0 255) = 0 then (some 0) else (some 140)
set_option maxHeartbeats 8000000 in
set_option maxRecDepth 100000 in
theorem b_h.calls (a0 : Int) (r : Int) (w : World) (h : b_h.f a0 = some r) :
 Calls Try.prog 38 #[.int .u32 a0] w fun e w' => e = .returned (.int .i64 r) ∧ b_g w w':=by
 have H : (if (Go.bits .andNot .u32 a0 255) = 0 then (some 0) else (some 140)) = some r:=h
 clear h
 by_cases c2 : (Go.bits .andNot .u32 a0 255) = 0
 ·rw [if_pos c2] at H
  have c2b0 : ((Go.bits .andNot .u32 a0 255) == 0) = true:=beq_iff_eq.mpr c2
  have c2b1 : ((Go.bits .andNot .u32 a0 255) != 0) = false:=bne_eq_false_iff_eq.mpr c2
  clear c2
  obtain rfl:=Option.some.inj H
  go_enter Try.func38,Try.ntmps38
  go_wp2
  go_ret
  exact ⟨by first|rfl|(simp;done)|(simp [*];done),by repeat (first|exact b_g.refl _|apply b_g.step)⟩
 rw [if_neg c2] at H
 have c2b0 : ((Go.bits .andNot .u32 a0 255) == 0) = false:=beq_eq_false_iff_ne.mpr c2
 have c2b1 : ((Go.bits .andNot .u32 a0 255) != 0) = true:=bne_iff_ne.mpr c2
 obtain rfl:=Option.some.inj H
 go_enter Try.func38,Try.ntmps38
 go_wp2
 go_ret
 exact ⟨by first|rfl|(simp;done)|(simp [*];done),by repeat (first|exact b_g.refl _|apply b_g.step)⟩
end Go.Proofs.Ytkhbffjfclepfaa.Q
end
section
namespace Go.Proofs.Ytkhbffjfclepfaa.Q
open Go.RowKit Go.Proofs.YtkhbffjfclepfaaW.PrintWords Go.Proofs.YtkhbffjfclepfaaW.PrintLast Go.Proofs.YtkhbffjfclepfaaW.PrintMore
set_option linter.unusedVariables false
set_option linter.unusedSimpArgs false
mutual
def a_s.j0 : Nat → Bool → List Int → Option (Int)
 | 0,_,_ => none
 | k + 1,x3,x108000 => a_s.l0 k x3 0 x108000 (x108000.length : Int) 0
def a_s.l0 : Nat → Bool → Int → List Int → Int → Int → Option (Int)
 | 0,_,_,_,_,_ => none
 | k + 1,x3,x4,x18,x19,x20 => if x20 < x19 then (if 0 ≤ x20 then (if x20 < (x18.length : Int) then (if x3 = true then (if (rd x18 x20) = 0 then (a_s.l0 k false (Go.bits .or .u32 x4 (rd x18 x20)) x18 x19 (wrap64 (x20 + 1))) else ((b_h.f (rd x18 x20)).bind fun t109 => (if t109 = 0 then (a_s.l0 k ((Go.bits .and .u32 (rd x18 x20) x4) == 0) (Go.bits .or .u32 x4 (rd x18 x20)) x18 x19 (wrap64 (x20 + 1))) else (a_s.l0 k false (Go.bits .or .u32 x4 (rd x18 x20)) x18 x19 (wrap64 (x20 + 1)))))) else (a_s.l0 k false (Go.bits .or .u32 x4 (rd x18 x20)) x18 x19 (wrap64 (x20 + 1)))) else (none)) else (none)) else (if x3 = true then (if (Go.bits .and .u32 x4 ((x4 + 1) % 4294967296)) = 0 then (some 0) else (some 180)) else (some 180))
end
def a_s.f (k : Nat) (l0_0 : List Int) : Option (Int):=if (l0_0.length : Int) > 0 then (a_s.j0 k (decide ((l0_0.length : Int) ≤ 4)) l0_0) else (a_s.j0 k false l0_0)
theorem a_s.b_X : ∀ k,(∀ y0 y1,LeO (a_s.j0 k y0 y1) (a_s.j0 (k + 1) y0 y1)) ∧ (∀ y0 y1 y2 y3 y4,LeO (a_s.l0 k y0 y1 y2 y3 y4) (a_s.l0 (k + 1) y0 y1 y2 y3 y4))
 | 0 => ⟨fun _ _ r h => by simp [a_s.j0] at h,fun _ _ _ _ _ r h => by simp [a_s.l0] at h⟩
 | k + 1 => by
  obtain ⟨ih0,ih1⟩:=a_s.b_X k
  refine ⟨?_,?_⟩
  ·intro y0 y1
   unfold a_s.j0
   repeat' first
   | (with_reducible exact ih0 _ _)
   | (with_reducible exact ih1 _ _ _ _ _)
   | (with_reducible exact LeO.refl _)
   | (with_reducible exact LeO.none _)
   | (with_reducible refine LeO.ite ?_ ?_)
   | (with_reducible refine LeO.bind ?_ (fun _ => ?_))
   | exact ih0 _ _
   | exact ih1 _ _ _ _ _
   | exact LeO.none _
   | refine LeO.ite ?_ ?_
   | refine LeO.bind ?_ (fun _ => ?_)
  ·intro y0 y1 y2 y3 y4
   unfold a_s.l0
   repeat' first
   | (with_reducible exact ih0 _ _)
   | (with_reducible exact ih1 _ _ _ _ _)
   | (with_reducible exact LeO.refl _)
   | (with_reducible exact LeO.none _)
   | (with_reducible refine LeO.ite ?_ ?_)
   | (with_reducible refine LeO.bind ?_ (fun _ => ?_))
   | exact ih0 _ _
   | exact ih1 _ _ _ _ _
   | exact LeO.none _
   | refine LeO.ite ?_ ?_
   | refine LeO.bind ?_ (fun _ => ?_)
theorem a_s.mono : ∀ a0 k,LeO (a_s.f k a0) (a_s.f (k + 1) a0):=by
 intro a0 k
 obtain ⟨ih0,ih1⟩:=a_s.b_X k
 unfold a_s.f
 repeat' first
  | (with_reducible exact ih0 _ _)
  | (with_reducible exact ih1 _ _ _ _ _)
  | (with_reducible exact LeO.refl _)
  | (with_reducible exact LeO.none _)
  | (with_reducible refine LeO.ite ?_ ?_)
  | (with_reducible refine LeO.bind ?_ (fun _ => ?_))
  | exact ih0 _ _
  | exact ih1 _ _ _ _ _
  | exact LeO.none _
  | refine LeO.ite ?_ ?_
  | refine LeO.bind ?_ (fun _ => ?_)
set_option maxHeartbeats 8000000 in
set_option maxRecDepth 100000 in
theorem a_s.calls (k : Nat) (A0_0 : Option Addr) (c0_0 : Nat) (l0_0 : List Int) (r : Int) (w : World) (hr0_0 : Kd.C (Kd.int .u32) w A0_0 l0_0.length l0_0) (hc0_0 : l0_0.length ≤ c0_0) (h : a_s.f k l0_0 = some r) :
 Calls Try.prog 17 #[.agg #[.slice A0_0 l0_0.length c0_0]] w fun e w' => e = .returned (.int .i64 r) ∧ Below w.heap.size w w':=by
 have hu26:=Try.underlying26
 have b_K:=a_a.mk hr0_0
 have c_d:=a_a.mk hc0_0
 clear hr0_0 hc0_0
 have HB:=a_a.mk (Below.refl w.heap.size w)
 have H : (if (l0_0.length : Int) > 0 then (a_s.j0 k (decide ((l0_0.length : Int) ≤ 4)) l0_0) else (a_s.j0 k false l0_0)) = some r:=h
 clear h
 have HC2:=a_a.mk H
 clear H
 go_enter Try.func17,Try.ntmps17
 go_upto_region 1 with (first|((with_reducible refine a_E (N:=1) rfl ?_);(try (refine b_G (by rfl) ?_;dsimp only));refine a_D ?hg (N:=1) ?hd (cs:=#[.slice A0_0 l0_0.length c0_0]) (t:=26) ?hr ?_;(case hd => rfl);(case hg => rfl);(case hr => first|(go_simp;done)|(go_simp;rfl));intro f_f hg w3 hbox hb;have c_3:=a_a.mk (hbox);have l_w:=a_a.mk ((by rw [hg];exact (a_m (lup_ HB.out)) : w.heap.size ≤ f_f));have d_9:=a_a.mk ((by rw [hg];exact (a_m (lup_ HB.out)) : w.heap.size ≤ f_f));replace HB:=a_a.mk (a_i (lup_ HB.out) hb);clear hb hbox hg))
 (try simp only [Act.put,List.setIfInBounds_toArray,List.set_cons_zero,List.set_cons_succ])
 go_cut [3] (fun v3 wc => ∃ (kq : Nat) (x3_1 : Bool),v3 = .bool x3_1 ∧ a_a (a_s.j0 kq x3_1 l0_0 = some r) ∧ a_a (kq ≤ k) ∧ a_a (wc.heap[f_f]? = some (.cells #[(.slice A0_0 l0_0.length c0_0)] 26 (0,0))) ∧ a_a (Below w.heap.size w wc))
 case first =>
  have H:=HC2.out
  clear HC2
  by_cases c4 : (l0_0.length : Int) > 0
  ·rw [if_pos c4] at H
   have c4b0 : decide (0 < (l0_0.length : Int)) = true:=decide_eq_true c4
   have c4b1 : decide (0 < l0_0.length) = true:=decide_eq_true (by omega)
   clear c4
   (first|rw [c4b0]|(simp only [a_K,a_J];rw [c4b0])|skip)
   have H':=a_a.mk H
   clear H
   have d_i : w3.cell? ⟨f_f,0,none⟩ = some (.slice A0_0 l0_0.length c0_0):=(a_j c_3.out 0).trans rfl
   have d_j:=a_k c_3.out 0
   go_wp2
   go_meet
   case rel => exact ⟨_,(decide ((l0_0.length : Int) ≤ 4)),(by first|rfl|(simp;done)|(simp [*];done)),H',⟨by first|omega|exact Nat.le_refl _⟩,⟨by (with_reducible repeat (first|refine a_u ?_ _|refine a_t ?_|refine a_w ?_ _));exact c_3.out⟩,⟨by repeat (first|(with_reducible first|exact HB.out|apply a_f|apply a_d|apply a_g|refine a_c ?_ d_9.out)|exact HB.out)⟩⟩
  rw [if_neg c4] at H
  have c4b0 : decide (0 < (l0_0.length : Int)) = false:=decide_eq_false c4
  have c4b1 : decide (0 < l0_0.length) = false:=decide_eq_false (by omega)
  clear c4
  (first|rw [c4b0]|(simp only [a_K,a_J];rw [c4b0])|skip)
  have H':=a_a.mk H
  clear H
  have d_S : w3.cell? ⟨f_f,0,none⟩ = some (.slice A0_0 l0_0.length c0_0):=(a_j c_3.out 0).trans rfl
  have d_T:=a_k c_3.out 0
  go_wp2
  go_meet
  case rel => exact ⟨_,(false),(by first|rfl|(simp;done)|(simp [*];done)),H',⟨by first|omega|exact Nat.le_refl _⟩,⟨by (with_reducible repeat (first|refine a_u ?_ _|refine a_t ?_|refine a_w ?_ _));exact c_3.out⟩,⟨by repeat (first|(with_reducible first|exact HB.out|apply a_f|apply a_d|apply a_g|refine a_c ?_ d_9.out)|exact HB.out)⟩⟩
 case rest =>
  clear HC2
  try clear c1
  try clear p2
  try clear c4
  try clear c4b0
  try clear c4b1
  try clear d_i
  try clear d_S
  try clear d_j
  try clear d_T
  obtain ⟨kq,x3_1,rfl,HA,HJ1,c_3,HB⟩:=hcut
  cases kq with
  | zero => exact absurd HA.out (by simp [a_s.j0])
  | succ kj1 =>
   have H:=HA.out
   clear HA
   simp only [a_s.j0] at H
   have H':=a_a.mk H
   clear H
   have d_x : wc.cell? ⟨f_f,0,none⟩ = some (.slice A0_0 l0_0.length c0_0):=(a_j c_3.out 0).trans rfl
   have d_y:=a_k c_3.out 0
   go_wp2
   go_loopg [3,4,20] kj1 (fun kq v3 v4 v20 w' => ∃ (x3_2 : Bool) (x4_2 : Int) (x20_2 : Int),v3 = .bool x3_2 ∧ v4 = .int .u32 x4_2 ∧ v20 = .int .i64 x20_2 ∧ a_a (a_s.l0 kq x3_2 x4_2 l0_0 (l0_0.length : Int) x20_2 = some r) ∧ a_a (kq ≤ kj1) ∧ a_a (w'.heap[f_f]? = some (.cells #[(.slice A0_0 l0_0.length c0_0)] 26 (0,0))) ∧ a_a (Below w.heap.size w w'))
   case atStart => exact ⟨(x3_1),(0),(0),(by first|rfl|(simp;done)|(simp [*];done)),(by first|rfl|(simp;done)|(simp [*];done)),(by first|rfl|(simp;done)|(simp [*];done)),H',⟨Nat.le_refl _⟩,⟨by (with_reducible repeat (first|refine a_u ?_ _|refine a_t ?_|refine a_w ?_ _));exact c_3.out⟩,⟨by repeat (first|(with_reducible first|exact HB.out|apply a_f|apply a_d|apply a_g|refine a_c ?_ d_9.out)|exact HB.out)⟩⟩
   case round =>
    clear H'
    try clear c1
    try clear p2
    try clear c4
    try clear c4b0
    try clear c4b1
    try clear d_i
    try clear d_S
    try clear d_x
    try clear d_j
    try clear d_T
    try clear d_y
    try clear p2
    obtain ⟨x3_2,x4_2,x20_2,rfl,rfl,rfl,HA,HK2,c_3,HB⟩:=hrel
    cases gk with
    | zero => exact absurd HA.out (by simp [a_s.l0])
    | succ k2 =>
     have H:=HA.out
     clear HA
     simp only [a_s.l0] at H
     by_cases c8 : x20_2 < (l0_0.length : Int)
     rotate_left
     ·rw [if_neg c8] at H
      have c8b0 : decide (x20_2 < (l0_0.length : Int)) = false:=decide_eq_false c8
      clear c8
      by_cases c15 : x3_2 = true
      rotate_left
      ·replace c15:=Bool.eq_false_iff.mpr c15
       subst c15
       have H1 : (some 180) = some r:=by rw [if_neg (show ¬ (false = true) by decide)] at H;exact H
       clear H
       have H:=H1
       clear H1
       obtain rfl:=Option.some.inj H
       go_wp2
       go_ret
       exact ⟨by first|rfl|(simp [a_z,a_A] <;> rfl)|(simp [*, a_z,a_A] <;> rfl),by repeat (first|(with_reducible first|exact HB.out|apply a_f|apply a_d|apply a_g|refine a_c ?_ d_9.out)|exact HB.out)⟩
      subst c15
      have H1 : (if (Go.bits .and .u32 x4_2 ((x4_2 + 1) % 4294967296)) = 0 then (some 0) else (some 180)) = some r:=by rw [if_pos rfl] at H;exact H
      clear H
      have H:=H1
      clear H1
      by_cases c16 : (Go.bits .and .u32 x4_2 ((x4_2 + 1) % 4294967296)) = 0
      ·rw [if_pos c16] at H
       have c16b0 : ((Go.bits .and .u32 x4_2 ((x4_2 + 1) % 4294967296)) == 0) = true:=beq_iff_eq.mpr c16
       have c16b1 : ((Go.bits .and .u32 x4_2 ((x4_2 + 1) % 4294967296)) != 0) = false:=bne_eq_false_iff_eq.mpr c16
       clear c16
       obtain rfl:=Option.some.inj H
       go_wp2
       go_ret
       exact ⟨by first|rfl|(simp [a_z,a_A] <;> rfl)|(simp [*, a_z,a_A] <;> rfl),by repeat (first|(with_reducible first|exact HB.out|apply a_f|apply a_d|apply a_g|refine a_c ?_ d_9.out)|exact HB.out)⟩
      rw [if_neg c16] at H
      have c16b0 : ((Go.bits .and .u32 x4_2 ((x4_2 + 1) % 4294967296)) == 0) = false:=beq_eq_false_iff_ne.mpr c16
      have c16b1 : ((Go.bits .and .u32 x4_2 ((x4_2 + 1) % 4294967296)) != 0) = true:=bne_iff_ne.mpr c16
      obtain rfl:=Option.some.inj H
      go_wp2
      go_ret
      exact ⟨by first|rfl|(simp [a_z,a_A] <;> rfl)|(simp [*, a_z,a_A] <;> rfl),by repeat (first|(with_reducible first|exact HB.out|apply a_f|apply a_d|apply a_g|refine a_c ?_ d_9.out)|exact HB.out)⟩
     rw [if_pos c8] at H
     have c8b0 : decide (x20_2 < (l0_0.length : Int)) = true:=decide_eq_true c8
     clear c8
     by_cases c9 : 0 ≤ x20_2
     rotate_left
     ·rw [if_neg c9] at H
      exact absurd H (by simp)
     rw [if_pos c9] at H
     have c9b0 : decide (0 ≤ x20_2) = true:=decide_eq_true c9
     clear c9
     by_cases c10 : x20_2 < (l0_0.length : Int)
     rotate_left
     ·rw [if_neg c10] at H
      exact absurd H (by simp)
     rw [if_pos c10] at H
     have c10b0 : decide (x20_2 < (l0_0.length : Int)) = true:=decide_eq_true c10
     clear c10
     by_cases c11 : x3_2 = true
     rotate_left
     ·replace c11:=Bool.eq_false_iff.mpr c11
      subst c11
      have H1 : (a_s.l0 k2 false (Go.bits .or .u32 x4_2 (rd l0_0 x20_2)) l0_0 (l0_0.length : Int) (wrap64 (x20_2 + 1))) = some r:=by rw [if_neg (show ¬ (false = true) by decide)] at H;exact H
      clear H
      have H:=H1
      clear H1
      have H':=a_a.mk H
      clear H
      have p108 : 0 ≤ (x20_2 : Int):=of_decide_eq_true (by first|(with_reducible assumption)|assumption)
      have q108 : x20_2 < (l0_0.length : Int):=of_decide_eq_true (by first|(with_reducible assumption)|assumption)
      obtain ⟨ad108,e108,b_3⟩:=Kd.b_w b_K.out x20_2 p108 q108
      cases e108
      replace b_3:=(HB.out.cell (World.block_lt_of_cell? w _ b_3)).trans b_3
      replace p108:=eq_true p108
      replace q108:=eq_true q108
      go_wp2
      go_roundg k2
      case measure => have:=HJ1.out;have:=HK2.out;omega
      case rel => exact ⟨(false),(Go.bits .or .u32 x4_2 (rd l0_0 x20_2)),(wrap64 (x20_2 + 1)),(by first|rfl|(simp;done)|(simp [*];done)),(by first|rfl|(simp;done)|(simp [*];done)),(by first|rfl|(simp;done)|(simp [*];done)),H',⟨by have:=HJ1.out;have:=HK2.out;omega⟩,⟨by (with_reducible repeat (first|refine a_u ?_ _|refine a_t ?_|refine a_w ?_ _));exact c_3.out⟩,⟨by repeat (first|(with_reducible first|exact HB.out|apply a_f|apply a_d|apply a_g|refine a_c ?_ d_9.out)|exact HB.out)⟩⟩
     subst c11
     have H1 : (if (rd l0_0 x20_2) = 0 then (a_s.l0 k2 false (Go.bits .or .u32 x4_2 (rd l0_0 x20_2)) l0_0 (l0_0.length : Int) (wrap64 (x20_2 + 1))) else ((b_h.f (rd l0_0 x20_2)).bind fun t109 => (if t109 = 0 then (a_s.l0 k2 ((Go.bits .and .u32 (rd l0_0 x20_2) x4_2) == 0) (Go.bits .or .u32 x4_2 (rd l0_0 x20_2)) l0_0 (l0_0.length : Int) (wrap64 (x20_2 + 1))) else (a_s.l0 k2 false (Go.bits .or .u32 x4_2 (rd l0_0 x20_2)) l0_0 (l0_0.length : Int) (wrap64 (x20_2 + 1)))))) = some r:=by rw [if_pos rfl] at H;exact H
     clear H
     have H:=H1
     clear H1
     by_cases c12 : (rd l0_0 x20_2) = 0
     ·rw [if_pos c12] at H
      have c12b0 : ((rd l0_0 x20_2) == 0) = true:=beq_iff_eq.mpr c12
      have c12b1 : ((rd l0_0 x20_2) != 0) = false:=bne_eq_false_iff_eq.mpr c12
      clear c12
      have H':=a_a.mk H
      clear H
      have p108 : 0 ≤ (x20_2 : Int):=of_decide_eq_true (by first|(with_reducible assumption)|assumption)
      have q108 : x20_2 < (l0_0.length : Int):=of_decide_eq_true (by first|(with_reducible assumption)|assumption)
      obtain ⟨ad108,e108,b_3⟩:=Kd.b_w b_K.out x20_2 p108 q108
      cases e108
      replace b_3:=(HB.out.cell (World.block_lt_of_cell? w _ b_3)).trans b_3
      replace p108:=eq_true p108
      replace q108:=eq_true q108
      go_wp2
      go_roundg k2
      case measure => have:=HJ1.out;have:=HK2.out;omega
      case rel => exact ⟨(false),(Go.bits .or .u32 x4_2 (rd l0_0 x20_2)),(wrap64 (x20_2 + 1)),(by first|rfl|(simp;done)|(simp [*];done)),(by first|rfl|(simp;done)|(simp [*];done)),(by first|rfl|(simp;done)|(simp [*];done)),H',⟨by have:=HJ1.out;have:=HK2.out;omega⟩,⟨by (with_reducible repeat (first|refine a_u ?_ _|refine a_t ?_|refine a_w ?_ _));exact c_3.out⟩,⟨by repeat (first|(with_reducible first|exact HB.out|apply a_f|apply a_d|apply a_g|refine a_c ?_ d_9.out)|exact HB.out)⟩⟩
     rw [if_neg c12] at H
     have c12b0 : ((rd l0_0 x20_2) == 0) = false:=beq_eq_false_iff_ne.mpr c12
     have c12b1 : ((rd l0_0 x20_2) != 0) = true:=bne_iff_ne.mpr c12
     replace H:=Option.bind_eq_some_iff.mp H
     obtain ⟨t109,A130,H⟩:=H
     replace H : (if t109 = 0 then (a_s.l0 k2 ((Go.bits .and .u32 (rd l0_0 x20_2) x4_2) == 0) (Go.bits .or .u32 x4_2 (rd l0_0 x20_2)) l0_0 (l0_0.length : Int) (wrap64 (x20_2 + 1))) else (a_s.l0 k2 false (Go.bits .or .u32 x4_2 (rd l0_0 x20_2)) l0_0 (l0_0.length : Int) (wrap64 (x20_2 + 1)))) = some r:=H
     have A13:=a_a.mk A130
     clear A130
     by_cases c14 : t109 = 0
     ·rw [if_pos c14] at H
      have c14b0 : (t109 == 0) = true:=beq_iff_eq.mpr c14
      have c14b1 : (t109 != 0) = false:=bne_eq_false_iff_eq.mpr c14
      clear c14
      have H':=a_a.mk H
      clear H
      have p108 : 0 ≤ (x20_2 : Int):=of_decide_eq_true (by first|(with_reducible assumption)|assumption)
      have q108 : x20_2 < (l0_0.length : Int):=of_decide_eq_true (by first|(with_reducible assumption)|assumption)
      obtain ⟨ad108,e108,b_3⟩:=Kd.b_w b_K.out x20_2 p108 q108
      cases e108
      replace b_3:=(HB.out.cell (World.block_lt_of_cell? w _ b_3)).trans b_3
      replace p108:=eq_true p108
      replace q108:=eq_true q108
      go_wp2_with (first|(go_at_call 38;(with_reducible refine (b_h.calls (rd l0_0 x20_2) t109 _ A13.out).mono ?_);rintro e w' ⟨rfl,⟨nd,rfl⟩⟩))
      go_roundg k2
      case measure => have:=HJ1.out;have:=HK2.out;omega
      case rel => exact ⟨(((Go.bits .and .u32 (rd l0_0 x20_2) x4_2) == 0)),(Go.bits .or .u32 x4_2 (rd l0_0 x20_2)),(wrap64 (x20_2 + 1)),(by first|rfl|(simp;done)|(simp [*];done)),(by first|rfl|(simp;done)|(simp [*];done)),(by first|rfl|(simp;done)|(simp [*];done)),H',⟨by have:=HJ1.out;have:=HK2.out;omega⟩,⟨by (with_reducible repeat (first|refine a_u ?_ _|refine a_t ?_|refine a_w ?_ _));exact c_3.out⟩,⟨by repeat (first|(with_reducible first|exact HB.out|apply a_f|apply a_d|apply a_g|refine a_c ?_ d_9.out)|exact HB.out)⟩⟩
     rw [if_neg c14] at H
     have c14b0 : (t109 == 0) = false:=beq_eq_false_iff_ne.mpr c14
     have c14b1 : (t109 != 0) = true:=bne_iff_ne.mpr c14
     have H':=a_a.mk H
     clear H
     have p108 : 0 ≤ (x20_2 : Int):=of_decide_eq_true (by first|(with_reducible assumption)|assumption)
     have q108 : x20_2 < (l0_0.length : Int):=of_decide_eq_true (by first|(with_reducible assumption)|assumption)
     obtain ⟨ad108,e108,b_3⟩:=Kd.b_w b_K.out x20_2 p108 q108
     cases e108
     replace b_3:=(HB.out.cell (World.block_lt_of_cell? w _ b_3)).trans b_3
     replace p108:=eq_true p108
     replace q108:=eq_true q108
     go_wp2_with (first|(go_at_call 38;(with_reducible refine (b_h.calls (rd l0_0 x20_2) t109 _ A13.out).mono ?_);rintro e w' ⟨rfl,⟨nd,rfl⟩⟩))
     go_roundg k2
     case measure => have:=HJ1.out;have:=HK2.out;omega
     case rel => exact ⟨(false),(Go.bits .or .u32 x4_2 (rd l0_0 x20_2)),(wrap64 (x20_2 + 1)),(by first|rfl|(simp;done)|(simp [*];done)),(by first|rfl|(simp;done)|(simp [*];done)),(by first|rfl|(simp;done)|(simp [*];done)),H',⟨by have:=HJ1.out;have:=HK2.out;omega⟩,⟨by (with_reducible repeat (first|refine a_u ?_ _|refine a_t ?_|refine a_w ?_ _));exact c_3.out⟩,⟨by repeat (first|(with_reducible first|exact HB.out|apply a_f|apply a_d|apply a_g|refine a_c ?_ d_9.out)|exact HB.out)⟩⟩
end Go.Proofs.Ytkhbffjfclepfaa.Q
end
section
namespace Go.Proofs.Ytkhbffjfclepfaa.Q
open Go.RowKit Go.Proofs.YtkhbffjfclepfaaW.PrintWords Go.Proofs.YtkhbffjfclepfaaW.PrintLast Go.Proofs.YtkhbffjfclepfaaW.PrintMore
set_option linter.unusedVariables false
set_option linter.unusedSimpArgs false
def a_4.l0 : Nat → List Int → List Int → Int → Int → Option (Bool)
 | 0,_,_,_,_ => none
 | k + 1,x0,x1,x12,x13 => if x13 < x12 then (if 0 ≤ x13 then (if x13 < (x0.length : Int) then (if x13 < (x1.length : Int) then (if (rd x0 x13) = (rd x1 x13) then (a_4.l0 k x0 x1 x12 (wrap64 (x13 + 1))) else (some false)) else (none)) else (none)) else (none)) else (some true)
def a_4.f (k : Nat) (l0 : List Int) (l1 : List Int) : Option (Bool):=if (l0.length : Int) = (l1.length : Int) then (a_4.l0 k l0 l1 (l0.length : Int) 0) else (some false)
theorem a_4.b_X : ∀ k,(∀ y0 y1 y2 y3,LeO (a_4.l0 k y0 y1 y2 y3) (a_4.l0 (k + 1) y0 y1 y2 y3))
 | 0 => fun _ _ _ _ r h => by simp [a_4.l0] at h
 | k + 1 => by
  have ih0:=a_4.b_X k
  ·intro y0 y1 y2 y3
   unfold a_4.l0
   repeat' first
   | (with_reducible exact ih0 _ _ _ _)
   | (with_reducible exact LeO.refl _)
   | (with_reducible exact LeO.none _)
   | (with_reducible refine LeO.ite ?_ ?_)
   | (with_reducible refine LeO.bind ?_ (fun _ => ?_))
   | exact ih0 _ _ _ _
   | exact LeO.none _
   | refine LeO.ite ?_ ?_
   | refine LeO.bind ?_ (fun _ => ?_)
theorem a_4.mono : ∀ a0 a1 k,LeO (a_4.f k a0 a1) (a_4.f (k + 1) a0 a1):=by
 intro a0 a1 k
 have ih0:=a_4.b_X k
 unfold a_4.f
 repeat' first
  | (with_reducible exact ih0 _ _ _ _)
  | (with_reducible exact LeO.refl _)
  | (with_reducible exact LeO.none _)
  | (with_reducible refine LeO.ite ?_ ?_)
  | (with_reducible refine LeO.bind ?_ (fun _ => ?_))
  | exact ih0 _ _ _ _
  | exact LeO.none _
  | refine LeO.ite ?_ ?_
  | refine LeO.bind ?_ (fun _ => ?_)
set_option maxHeartbeats 8000000 in
set_option maxRecDepth 100000 in
theorem a_4.calls (k : Nat) (A0 : Option Addr) (c0 : Nat) (l0 : List Int) (A1 : Option Addr) (c1 : Nat) (l1 : List Int) (r : Bool) (w : World) (hr0 : Kd.C (Kd.int .u32) w A0 l0.length l0) (hc0 : l0.length ≤ c0) (hr1 : Kd.C (Kd.int .u32) w A1 l1.length l1) (hc1 : l1.length ≤ c1) (h : a_4.f k l0 l1 = some r) :
 Calls Try.prog 39 #[.slice A0 l0.length c0,.slice A1 l1.length c1] w fun e w' => e = .returned (.bool r) ∧ b_g w w':=by
 have HR0:=a_a.mk hr0
 have HC0:=a_a.mk hc0
 clear hr0 hc0
 have HR1:=a_a.mk hr1
 have HC1:=a_a.mk hc1
 clear hr1 hc1
 have H : (if (l0.length : Int) = (l1.length : Int) then (a_4.l0 k l0 l1 (l0.length : Int) 0) else (some false)) = some r:=h
 clear h
 by_cases c3 : (l0.length : Int) = (l1.length : Int)
 rotate_left
 ·rw [if_neg c3] at H
  have c3b0 : ((l0.length : Int) == (l1.length : Int)) = false:=beq_eq_false_iff_ne.mpr c3
  have c3b1 : ((l0.length : Int) != (l1.length : Int)) = true:=bne_iff_ne.mpr c3
  have c3b2 : (l0.length == l1.length) = false:=by first|simpa using c3|(simp at c3 ⊢; omega)
  obtain rfl:=Option.some.inj H
  go_enter Try.func39,Try.ntmps39
  go_wp2
  repeat (go_quiet (fail);try go_wp2)
  go_ret
  exact ⟨by first|rfl|(simp;done)|(simp [*];done),by repeat (first|exact b_g.refl _|apply b_g.step)⟩
 rw [if_pos c3] at H
 have c3b0 : ((l0.length : Int) == (l1.length : Int)) = true:=beq_iff_eq.mpr c3
 have c3b1 : ((l0.length : Int) != (l1.length : Int)) = false:=bne_eq_false_iff_eq.mpr c3
 have c3b2 : (l0.length == l1.length) = true:=by first|simpa using c3|(simp at c3 ⊢; omega)
 clear c3
 have H':=a_a.mk H
 clear H
 go_enter Try.func39,Try.ntmps39
 go_wp2
 repeat (go_quiet (fail);try go_wp2)
 go_loopg [13] k (fun kq v13 w' => ∃ (x13_1 : Int),v13 = .int .i64 x13_1 ∧ a_a (a_4.l0 kq l0 l1 (l0.length : Int) x13_1 = some r) ∧ a_a (kq ≤ k) ∧ b_g w w')
 case atStart => exact ⟨(0),(by first|rfl|(simp;done)|(simp [*];done)),H',⟨Nat.le_refl _⟩,by repeat (first|exact b_g.refl _|apply b_g.step)⟩
 case round =>
  clear H'
  try clear c1
  try clear p2
  try clear c3
  try clear c3b0
  try clear c3b1
  try clear c3b2
  obtain ⟨x13_1,rfl,HA,HK1,⟨m1,rfl⟩⟩:=hrel
  cases gk with
  | zero => exact absurd HA.out (by simp [a_4.l0])
  | succ k1 =>
   have H:=HA.out
   clear HA
   simp only [a_4.l0] at H
   by_cases c4 : x13_1 < (l0.length : Int)
   rotate_left
   ·rw [if_neg c4] at H
    have c4b0 : decide (x13_1 < (l0.length : Int)) = false:=decide_eq_false c4
    clear c4
    obtain rfl:=Option.some.inj H
    go_wp2
    repeat (go_quiet (fail);try go_wp2)
    go_ret
    exact ⟨by first|rfl|(simp;done)|(simp [*];done),by repeat (first|exact b_g.refl _|apply b_g.step)⟩
   rw [if_pos c4] at H
   have c4b0 : decide (x13_1 < (l0.length : Int)) = true:=decide_eq_true c4
   clear c4
   by_cases c5 : 0 ≤ x13_1
   rotate_left
   ·rw [if_neg c5] at H
    exact absurd H (by simp)
   rw [if_pos c5] at H
   have c5b0 : decide (0 ≤ x13_1) = true:=decide_eq_true c5
   clear c5
   by_cases c6 : x13_1 < (l0.length : Int)
   rotate_left
   ·rw [if_neg c6] at H
    exact absurd H (by simp)
   rw [if_pos c6] at H
   have c6b0 : decide (x13_1 < (l0.length : Int)) = true:=decide_eq_true c6
   clear c6
   by_cases c7 : x13_1 < (l1.length : Int)
   rotate_left
   ·rw [if_neg c7] at H
    exact absurd H (by simp)
   rw [if_pos c7] at H
   have c7b0 : decide (x13_1 < (l1.length : Int)) = true:=decide_eq_true c7
   clear c7
   by_cases c8 : (rd l0 x13_1) = (rd l1 x13_1)
   rotate_left
   ·rw [if_neg c8] at H
    have c8b0 : ((rd l0 x13_1) == (rd l1 x13_1)) = false:=beq_eq_false_iff_ne.mpr c8
    have c8b1 : ((rd l0 x13_1) != (rd l1 x13_1)) = true:=bne_iff_ne.mpr c8
    obtain rfl:=Option.some.inj H
    have p295 : 0 ≤ (x13_1 : Int):=of_decide_eq_true (by first|(with_reducible assumption)|assumption)
    have q295 : x13_1 < (l0.length : Int):=of_decide_eq_true (by first|(with_reducible assumption)|assumption)
    obtain ⟨ad295,e295,h_K⟩:=Kd.b_w HR0.out x13_1 p295 q295
    cases e295
    replace p295:=eq_true p295
    replace q295:=eq_true q295
    have p296 : 0 ≤ (x13_1 : Int):=of_decide_eq_true (by first|(with_reducible assumption)|assumption)
    have q296 : x13_1 < (l1.length : Int):=of_decide_eq_true (by first|(with_reducible assumption)|assumption)
    obtain ⟨ad296,e296,h_L⟩:=Kd.b_w HR1.out x13_1 p296 q296
    cases e296
    replace p296:=eq_true p296
    replace q296:=eq_true q296
    go_wp2
    repeat (go_quiet (fail);try go_wp2)
    go_ret
    exact ⟨by first|rfl|(simp;done)|(simp [*];done),by repeat (first|exact b_g.refl _|apply b_g.step)⟩
   rw [if_pos c8] at H
   have c8b0 : ((rd l0 x13_1) == (rd l1 x13_1)) = true:=beq_iff_eq.mpr c8
   have c8b1 : ((rd l0 x13_1) != (rd l1 x13_1)) = false:=bne_eq_false_iff_eq.mpr c8
   clear c8
   have H':=a_a.mk H
   clear H
   have p295 : 0 ≤ (x13_1 : Int):=of_decide_eq_true (by first|(with_reducible assumption)|assumption)
   have q295 : x13_1 < (l0.length : Int):=of_decide_eq_true (by first|(with_reducible assumption)|assumption)
   obtain ⟨ad295,e295,h_K⟩:=Kd.b_w HR0.out x13_1 p295 q295
   cases e295
   replace p295:=eq_true p295
   replace q295:=eq_true q295
   have p296 : 0 ≤ (x13_1 : Int):=of_decide_eq_true (by first|(with_reducible assumption)|assumption)
   have q296 : x13_1 < (l1.length : Int):=of_decide_eq_true (by first|(with_reducible assumption)|assumption)
   obtain ⟨ad296,e296,h_L⟩:=Kd.b_w HR1.out x13_1 p296 q296
   cases e296
   replace p296:=eq_true p296
   replace q296:=eq_true q296
   go_wp2
   repeat (go_quiet (fail);try go_wp2)
   go_roundg k1
   case measure => have:=HK1.out;omega
   case rel => exact ⟨(wrap64 (x13_1 + 1)),(by first|rfl|(simp;done)|(simp [*];done)),H',⟨by have:=HK1.out;omega⟩,by repeat (first|exact b_g.refl _|apply b_g.step)⟩
end Go.Proofs.Ytkhbffjfclepfaa.Q
end
section
namespace Go.Proofs.Ytkhbffjfclepfaa.Q
open Go.RowKit Go.Proofs.YtkhbffjfclepfaaW.PrintWords Go.Proofs.YtkhbffjfclepfaaW.PrintLast Go.Proofs.YtkhbffjfclepfaaW.PrintMore
set_option linter.unusedVariables false
set_option linter.unusedSimpArgs false
def a_O.f (k : Nat) (l0_0 : List Int) (l1_0 : List Int) : Option (Bool):=(a_4.f k l0_0 l1_0).bind fun t299 => (some t299)
theorem a_O.mono : ∀ a0 a1 k,LeO (a_O.f k a0 a1) (a_O.f (k + 1) a0 a1):=by
 intro a0 a1 k
 unfold a_O.f
 repeat' first
  | (with_reducible exact a_4.mono _ _ _)
  | (with_reducible exact LeO.refl _)
  | (with_reducible exact LeO.none _)
  | (with_reducible refine LeO.ite ?_ ?_)
  | (with_reducible refine LeO.bind ?_ (fun _ => ?_))
  | exact a_4.mono _ _ _
  | exact LeO.none _
  | refine LeO.ite ?_ ?_
  | refine LeO.bind ?_ (fun _ => ?_)
set_option maxHeartbeats 8000000 in
set_option maxRecDepth 100000 in
theorem a_O.calls (k : Nat) (A0_0 : Option Addr) (c0_0 : Nat) (l0_0 : List Int) (A1_0 : Option Addr) (c1_0 : Nat) (l1_0 : List Int) (r : Bool) (w : World) (hr0_0 : Kd.C (Kd.int .u32) w A0_0 l0_0.length l0_0) (hc0_0 : l0_0.length ≤ c0_0) (hr1_0 : Kd.C (Kd.int .u32) w A1_0 l1_0.length l1_0) (hc1_0 : l1_0.length ≤ c1_0) (h : a_O.f k l0_0 l1_0 = some r) :
 Calls Try.prog 18 #[.agg #[.slice A0_0 l0_0.length c0_0],.agg #[.slice A1_0 l1_0.length c1_0]] w fun e w' => e = .returned (.bool r) ∧ Below w.heap.size w w':=by
 have hu26:=Try.underlying26
 have b_K:=a_a.mk hr0_0
 have c_d:=a_a.mk hc0_0
 clear hr0_0 hc0_0
 have g_9:=a_a.mk hr1_0
 have i_x:=a_a.mk hc1_0
 clear hr1_0 hc1_0
 have HB:=a_a.mk (Below.refl w.heap.size w)
 have H : ((a_4.f k l0_0 l1_0).bind fun t299 => (some t299)) = some r:=h
 clear h
 replace H:=Option.bind_eq_some_iff.mp H
 obtain ⟨t299,A30,H⟩:=H
 replace H : (some t299) = some r:=H
 have A3:=a_a.mk A30
 clear A30
 obtain rfl:=Option.some.inj H
 go_enter Try.func18,Try.ntmps18
 go_wp2_with (first|((with_reducible refine a_E (N:=2) rfl ?_);refine a_D ?hg (N:=2) ?hd (cs:=#[.slice A0_0 l0_0.length c0_0]) (t:=26) ?hr ?_;(case hd => rfl);(case hg => rfl);(case hr => first|(go_simp;done)|(go_simp;rfl));intro g_p hg w4 hbox hb;have f_L:=a_a.mk (hbox);have l_x:=a_a.mk ((by rw [hg];exact (a_m (lup_ HB.out)) : w.heap.size ≤ g_p));have h_b:=a_a.mk ((by rw [hg];exact (a_m (lup_ HB.out)) : w.heap.size ≤ g_p));replace HB:=a_a.mk (a_i (lup_ HB.out) hb);clear hb hbox hg)|((with_reducible refine a_E (N:=3) rfl ?_);refine a_D ?hg (N:=3) ?hd (cs:=#[.slice A1_0 l1_0.length c1_0]) (t:=26) ?hr ?_;(case hd => rfl);(case hg => rfl);(case hr => first|(go_simp;done)|(go_simp;rfl));intro g_q hg w5 hbox hb;have i_C:=a_a.mk (hbox);have l_y:=a_a.mk ((by rw [hg];exact (a_m (by repeat (first|(with_reducible first|exact HB.out|apply a_f|apply a_d|apply a_g|refine a_c ?_ h_b.out)|exact HB.out))) : w.heap.size ≤ g_q));have k_f:=a_a.mk ((by rw [hg];exact (a_m (by repeat (first|(with_reducible first|exact HB.out|apply a_f|apply a_d|apply a_g|refine a_c ?_ h_b.out)|exact HB.out))) : w.heap.size ≤ g_q));have g_r:=a_a.mk ((by rw [hg];exact Nat.ne_of_lt (a_p (bup_ f_L.out)) : g_p ≠ g_q));have g_s:=a_a.mk ((by rw [hg];exact Nat.ne_of_gt (a_p (bup_ f_L.out)) : g_q ≠ g_p));replace f_L:=a_a.mk (a_e (bup_ f_L.out) hb);replace HB:=a_a.mk (a_i (by repeat (first|(with_reducible first|exact HB.out|apply a_f|apply a_d|apply a_g|refine a_c ?_ h_b.out)|exact HB.out)) hb);clear hb hbox hg;have hnb6:=g_r.out;have hnc6:=g_s.out;have d_x : w5.cell? ⟨g_p,0,none⟩ = some (.slice A0_0 l0_0.length c0_0):=(a_j f_L.out 0).trans rfl;have d_y:=a_k f_L.out 0;have d_v : w5.cell? ⟨g_q,0,none⟩ = some (.slice A1_0 l1_0.length c1_0):=(a_j i_C.out 0).trans rfl;have d_w:=a_k i_C.out 0)|((with_reducible refine a_B (f:=39) rfl ?_);refine b_f (some 9) rfl rfl Try.func39 (by kernel_rfl) rfl #[.slice A0_0 l0_0.length c0_0,.slice A1_0 l1_0.length c1_0] rfl (by (try simp only [List.map_toArray,List.map_cons,List.map_nil]);first|done|rfl|(simp only [List.length_drop,List.length_take];rfl)) ?_;(with_reducible refine (a_4.calls k _ _ l0_0 _ _ l1_0 t299 _ ?side1 ?side2 ?side3 ?side4 A3.out).mono ?_);(case side1 => repeat (first|exact (Kd.a_8 b_K.out HB.out)|(with_reducible refine Kd.a_M ?_ _)|(with_reducible refine Kd.a_N ?_ _)|(with_reducible refine Kd.a_T ?_)));(case side2 => exact c_d.out);(case side3 => repeat (first|exact (Kd.a_8 g_9.out HB.out)|(with_reducible refine Kd.a_M ?_ _)|(with_reducible refine Kd.a_N ?_ _)|(with_reducible refine Kd.a_T ?_)));(case side4 => exact i_x.out);rintro e w' ⟨rfl,⟨nd,rfl⟩⟩;refine ⟨_,rfl,?_⟩))
 go_ret
 exact ⟨by first|rfl|(simp [a_z,a_A] <;> rfl)|(simp [*, a_z,a_A] <;> rfl),by repeat (first|(with_reducible first|exact HB.out|apply a_f|apply a_d|apply a_g|refine a_c ?_ h_b.out|refine a_c ?_ k_f.out)|exact HB.out)⟩
end Go.Proofs.Ytkhbffjfclepfaa.Q
end
section
namespace Go.Proofs.Ytkhbffjfclepfaa.Q
open Go.RowKit Go.Proofs.YtkhbffjfclepfaaW.PrintWords Go.Proofs.YtkhbffjfclepfaaW.PrintLast Go.Proofs.YtkhbffjfclepfaaW.PrintMore
set_option linter.unusedVariables false
set_option linter.unusedSimpArgs false
def a_2.l0 : Nat → Int → List Int → Int → Int → Option (Int)
 | 0,_,_,_,_ => none
 | k + 1,x2,x9,x10,x11 => if x11 < x10 then (if 0 ≤ x11 then (if x11 < (x9.length : Int) then (a_2.l0 k (Go.bits .or .u32 x2 (rd x9 x11)) x9 x10 (wrap64 (x11 + 1))) else (none)) else (none)) else (some x2)
def a_2.f (k : Nat) (l0_0 : List Int) : Option (Int):=(a_s.f k l0_0).bind fun t301 => (if t301 = 0 then (a_2.l0 k 0 l0_0 (l0_0.length : Int) 0) else (some 0))
theorem a_2.b_X : ∀ k,(∀ y0 y1 y2 y3,LeO (a_2.l0 k y0 y1 y2 y3) (a_2.l0 (k + 1) y0 y1 y2 y3))
 | 0 => fun _ _ _ _ r h => by simp [a_2.l0] at h
 | k + 1 => by
  have ih0:=a_2.b_X k
  ·intro y0 y1 y2 y3
   unfold a_2.l0
   repeat' first
   | (with_reducible exact ih0 _ _ _ _)
   | (with_reducible exact a_s.mono _ _)
   | (with_reducible exact LeO.refl _)
   | (with_reducible exact LeO.none _)
   | (with_reducible refine LeO.ite ?_ ?_)
   | (with_reducible refine LeO.bind ?_ (fun _ => ?_))
   | exact ih0 _ _ _ _
   | exact a_s.mono _ _
   | exact LeO.none _
   | refine LeO.ite ?_ ?_
   | refine LeO.bind ?_ (fun _ => ?_)
theorem a_2.mono : ∀ a0 k,LeO (a_2.f k a0) (a_2.f (k + 1) a0):=by
 intro a0 k
 have ih0:=a_2.b_X k
 unfold a_2.f
 repeat' first
  | (with_reducible exact ih0 _ _ _ _)
  | (with_reducible exact a_s.mono _ _)
  | (with_reducible exact LeO.refl _)
  | (with_reducible exact LeO.none _)
  | (with_reducible refine LeO.ite ?_ ?_)
  | (with_reducible refine LeO.bind ?_ (fun _ => ?_))
  | exact ih0 _ _ _ _
  | exact a_s.mono _ _
  | exact LeO.none _
  | refine LeO.ite ?_ ?_
  | refine LeO.bind ?_ (fun _ => ?_)
set_option maxHeartbeats 8000000 in
set_option maxRecDepth 100000 in
theorem a_2.calls (k : Nat) (A0_0 : Option Addr) (c0_0 : Nat) (l0_0 : List Int) (r : Int) (w : World) (hr0_0 : Kd.C (Kd.int .u32) w A0_0 l0_0.length l0_0) (hc0_0 : l0_0.length ≤ c0_0) (h : a_2.f k l0_0 = some r) :
 Calls Try.prog 19 #[.agg #[.slice A0_0 l0_0.length c0_0]] w fun e w' => e = .returned (.int .u32 r) ∧ Below w.heap.size w w':=by
 have hu26:=Try.underlying26
 have b_K:=a_a.mk hr0_0
 have c_d:=a_a.mk hc0_0
 clear hr0_0 hc0_0
 have HB:=a_a.mk (Below.refl w.heap.size w)
 have H : ((a_s.f k l0_0).bind fun t301 => (if t301 = 0 then (a_2.l0 k 0 l0_0 (l0_0.length : Int) 0) else (some 0))) = some r:=h
 clear h
 replace H:=Option.bind_eq_some_iff.mp H
 obtain ⟨t301,A20,H⟩:=H
 replace H : (if t301 = 0 then (a_2.l0 k 0 l0_0 (l0_0.length : Int) 0) else (some 0)) = some r:=H
 have A2:=a_a.mk A20
 clear A20
 by_cases c3 : t301 = 0
 rotate_left
 ·rw [if_neg c3] at H
  have c3b0 : (t301 == 0) = false:=beq_eq_false_iff_ne.mpr c3
  have c3b1 : (t301 != 0) = true:=bne_iff_ne.mpr c3
  obtain rfl:=Option.some.inj H
  go_enter Try.func19,Try.ntmps19
  go_wp2_with (first|((with_reducible refine a_E (N:=1) rfl ?_);refine a_D ?hg (N:=1) ?hd (cs:=#[.slice A0_0 l0_0.length c0_0]) (t:=26) ?hr ?_;(case hd => rfl);(case hg => rfl);(case hr => first|(go_simp;done)|(go_simp;rfl));intro e_w hg w11 hbox hb;have d_k:=a_a.mk (hbox);have k_g:=a_a.mk ((by rw [hg];exact (a_m (lup_ HB.out)) : w.heap.size ≤ e_w));have f_g:=a_a.mk ((by rw [hg];exact (a_m (lup_ HB.out)) : w.heap.size ≤ e_w));replace HB:=a_a.mk (a_i (lup_ HB.out) hb);clear hb hbox hg;have g_t : w11.cell? ⟨e_w,0,none⟩ = some (.slice A0_0 l0_0.length c0_0):=(a_j d_k.out 0).trans rfl;have g_u:=a_k d_k.out 0)|((with_reducible refine a_B (f:=17) rfl ?_);refine b_f (some 6) rfl rfl Try.func17 (by kernel_rfl) rfl #[.agg #[.slice A0_0 l0_0.length c0_0]] rfl (by (try simp only [List.map_toArray,List.map_cons,List.map_nil]);first|done|rfl|(simp only [List.length_drop,List.length_take];rfl)) ?_;(with_reducible refine (a_s.calls k _ _ l0_0 t301 _ ?side1 ?side2 A2.out).mono ?_);(case side1 => repeat (first|exact (Kd.a_8 b_K.out HB.out)|(with_reducible refine Kd.a_M ?_ _)|(with_reducible refine Kd.a_N ?_ _)|(with_reducible refine Kd.a_T ?_)));(case side2 => exact c_d.out);rintro e w13 ⟨rfl,hb⟩;refine ⟨_,rfl,?_⟩;replace d_k:=a_a.mk (a_e (bup_ d_k.out) hb);replace HB:=a_a.mk (a_i (by repeat (first|(with_reducible first|exact HB.out|apply a_f|apply a_d|apply a_g|refine a_c ?_ f_g.out)|exact HB.out)) hb);(try clear hb);(try clear hb2);(try clear hk);(try clear hi)))
  go_ret
  exact ⟨by first|rfl|(simp [a_z,a_A] <;> rfl)|(simp [*, a_z,a_A] <;> rfl),by repeat (first|(with_reducible first|exact HB.out|apply a_f|apply a_d|apply a_g|refine a_c ?_ f_g.out)|exact HB.out)⟩
 rw [if_pos c3] at H
 have c3b0 : (t301 == 0) = true:=beq_iff_eq.mpr c3
 have c3b1 : (t301 != 0) = false:=bne_eq_false_iff_eq.mpr c3
 clear c3
 have H':=a_a.mk H
 clear H
 go_enter Try.func19,Try.ntmps19
 go_wp2_with (first|((with_reducible refine a_E (N:=1) rfl ?_);refine a_D ?hg (N:=1) ?hd (cs:=#[.slice A0_0 l0_0.length c0_0]) (t:=26) ?hr ?_;(case hd => rfl);(case hg => rfl);(case hr => first|(go_simp;done)|(go_simp;rfl));intro e_w hg w4 hbox hb;have d_k:=a_a.mk (hbox);have k_g:=a_a.mk ((by rw [hg];exact (a_m (lup_ HB.out)) : w.heap.size ≤ e_w));have f_g:=a_a.mk ((by rw [hg];exact (a_m (lup_ HB.out)) : w.heap.size ≤ e_w));replace HB:=a_a.mk (a_i (lup_ HB.out) hb);clear hb hbox hg;have d_i : w4.cell? ⟨e_w,0,none⟩ = some (.slice A0_0 l0_0.length c0_0):=(a_j d_k.out 0).trans rfl;have d_j:=a_k d_k.out 0)|((with_reducible refine a_B (f:=17) rfl ?_);refine b_f (some 6) rfl rfl Try.func17 (by kernel_rfl) rfl #[.agg #[.slice A0_0 l0_0.length c0_0]] rfl (by (try simp only [List.map_toArray,List.map_cons,List.map_nil]);first|done|rfl|(simp only [List.length_drop,List.length_take];rfl)) ?_;(with_reducible refine (a_s.calls k _ _ l0_0 t301 _ ?side1 ?side2 A2.out).mono ?_);(case side1 => repeat (first|exact (Kd.a_8 b_K.out HB.out)|(with_reducible refine Kd.a_M ?_ _)|(with_reducible refine Kd.a_N ?_ _)|(with_reducible refine Kd.a_T ?_)));(case side2 => exact c_d.out);rintro e w6 ⟨rfl,hb⟩;refine ⟨_,rfl,?_⟩;replace d_k:=a_a.mk (a_e (bup_ d_k.out) hb);replace HB:=a_a.mk (a_i (by repeat (first|(with_reducible first|exact HB.out|apply a_f|apply a_d|apply a_g|refine a_c ?_ f_g.out)|exact HB.out)) hb);(try clear hb);(try clear hb2);(try clear hk);(try clear hi);have d_x : w6.cell? ⟨e_w,0,none⟩ = some (.slice A0_0 l0_0.length c0_0):=(a_j d_k.out 0).trans rfl;have d_y:=a_k d_k.out 0))
 go_loopg [2,11] k (fun kq v2 v11 w' => ∃ (x2_1 : Int) (x11_1 : Int),v2 = .int .u32 x2_1 ∧ v11 = .int .i64 x11_1 ∧ a_a (a_2.l0 kq x2_1 l0_0 (l0_0.length : Int) x11_1 = some r) ∧ a_a (kq ≤ k) ∧ a_a (w'.heap[e_w]? = some (.cells #[(.slice A0_0 l0_0.length c0_0)] 26 (0,0))) ∧ a_a (Below w.heap.size w w'))
 case atStart => exact ⟨(0),(0),(by first|rfl|(simp;done)|(simp [*];done)),(by first|rfl|(simp;done)|(simp [*];done)),H',⟨Nat.le_refl _⟩,⟨by (with_reducible repeat (first|refine a_u ?_ _|refine a_t ?_|refine a_w ?_ _));exact d_k.out⟩,⟨by repeat (first|(with_reducible first|exact HB.out|apply a_f|apply a_d|apply a_g|refine a_c ?_ f_g.out)|exact HB.out)⟩⟩
 case round =>
  clear H'
  try clear c1
  try clear p2
  try clear c3
  try clear c3b0
  try clear c3b1
  try clear d_i
  try clear d_x
  try clear d_j
  try clear d_y
  obtain ⟨x2_1,x11_1,rfl,rfl,HA,HK1,d_k,HB⟩:=hrel
  cases gk with
  | zero => exact absurd HA.out (by simp [a_2.l0])
  | succ k1 =>
   have H:=HA.out
   clear HA
   simp only [a_2.l0] at H
   by_cases c8 : x11_1 < (l0_0.length : Int)
   rotate_left
   ·rw [if_neg c8] at H
    have c8b0 : decide (x11_1 < (l0_0.length : Int)) = false:=decide_eq_false c8
    clear c8
    obtain rfl:=Option.some.inj H
    go_wp2
    go_ret
    exact ⟨by first|rfl|(simp [a_z,a_A] <;> rfl)|(simp [*, a_z,a_A] <;> rfl),by repeat (first|(with_reducible first|exact HB.out|apply a_f|apply a_d|apply a_g|refine a_c ?_ f_g.out)|exact HB.out)⟩
   rw [if_pos c8] at H
   have c8b0 : decide (x11_1 < (l0_0.length : Int)) = true:=decide_eq_true c8
   clear c8
   by_cases c9 : 0 ≤ x11_1
   rotate_left
   ·rw [if_neg c9] at H
    exact absurd H (by simp)
   rw [if_pos c9] at H
   have c9b0 : decide (0 ≤ x11_1) = true:=decide_eq_true c9
   clear c9
   by_cases c10 : x11_1 < (l0_0.length : Int)
   rotate_left
   ·rw [if_neg c10] at H
    exact absurd H (by simp)
   rw [if_pos c10] at H
   have c10b0 : decide (x11_1 < (l0_0.length : Int)) = true:=decide_eq_true c10
   clear c10
   have H':=a_a.mk H
   clear H
   have p302 : 0 ≤ (x11_1 : Int):=of_decide_eq_true (by first|(with_reducible assumption)|assumption)
   have q302 : x11_1 < (l0_0.length : Int):=of_decide_eq_true (by first|(with_reducible assumption)|assumption)
   obtain ⟨ad302,e302,f_h⟩:=Kd.b_w b_K.out x11_1 p302 q302
   cases e302
   replace f_h:=(HB.out.cell (World.block_lt_of_cell? w _ f_h)).trans f_h
   replace p302:=eq_true p302
   replace q302:=eq_true q302
   go_wp2
   go_roundg k1
   case measure => have:=HK1.out;omega
   case rel => exact ⟨(Go.bits .or .u32 x2_1 (rd l0_0 x11_1)),(wrap64 (x11_1 + 1)),(by first|rfl|(simp;done)|(simp [*];done)),(by first|rfl|(simp;done)|(simp [*];done)),H',⟨by have:=HK1.out;omega⟩,⟨by (with_reducible repeat (first|refine a_u ?_ _|refine a_t ?_|refine a_w ?_ _));exact d_k.out⟩,⟨by repeat (first|(with_reducible first|exact HB.out|apply a_f|apply a_d|apply a_g|refine a_c ?_ f_g.out)|exact HB.out)⟩⟩
end Go.Proofs.Ytkhbffjfclepfaa.Q
end
section
namespace Go.Proofs.Ytkhbffjfclepfaa.Q
open Go.RowKit Go.Proofs.YtkhbffjfclepfaaW.PrintWords Go.Proofs.YtkhbffjfclepfaaW.PrintLast Go.Proofs.YtkhbffjfclepfaaW.PrintMore
set_option linter.unusedVariables false
set_option linter.unusedSimpArgs false
def b_0.f (a0 : Int) : Option (Int):=if a0 < 0 then (some 0) else (if a0 ≥ 8 then (some 0) else (if 0 ≤ a0 then (some (shl .u32 1 a0)) else (none)))
set_option maxHeartbeats 8000000 in
set_option maxRecDepth 100000 in
theorem b_0.calls (a0 : Int) (r : Int) (w : World) (h : b_0.f a0 = some r) :
 Calls Try.prog 53 #[.int .i64 a0] w fun e w' => e = .returned (.int .u32 r) ∧ b_g w w':=by
 have H : (if a0 < 0 then (some 0) else (if a0 ≥ 8 then (some 0) else (if 0 ≤ a0 then (some (shl .u32 1 a0)) else (none)))) = some r:=h
 clear h
 by_cases c2 : a0 < 0
 ·rw [if_pos c2] at H
  have c2b0 : decide (a0 < 0) = true:=decide_eq_true c2
  clear c2
  obtain rfl:=Option.some.inj H
  go_enter Try.func53,Try.ntmps53
  go_wp2
  go_ret
  exact ⟨by first|rfl|(simp;done)|(simp [*];done),by repeat (first|exact b_g.refl _|apply b_g.step)⟩
 rw [if_neg c2] at H
 have c2b0 : decide (a0 < 0) = false:=decide_eq_false c2
 clear c2
 by_cases c3 : a0 ≥ 8
 ·rw [if_pos c3] at H
  have c3b0 : decide (8 ≤ a0) = true:=decide_eq_true c3
  clear c3
  obtain rfl:=Option.some.inj H
  go_enter Try.func53,Try.ntmps53
  go_wp2
  go_ret
  exact ⟨by first|rfl|(simp;done)|(simp [*];done),by repeat (first|exact b_g.refl _|apply b_g.step)⟩
 rw [if_neg c3] at H
 have c3b0 : decide (8 ≤ a0) = false:=decide_eq_false c3
 clear c3
 by_cases c4 : 0 ≤ a0
 rotate_left
 ·rw [if_neg c4] at H
  exact absurd H (by simp)
 rw [if_pos c4] at H
 have c4b0:=eq_true c4
 have c4b1 : decide (0 ≤ a0) = true:=decide_eq_true c4
 clear c4
 obtain ⟨ji5,hji5⟩ : ∃ j_ : Int,(shl .u32 1 a0) = j_:=⟨_,rfl⟩
 replace H : (some ji5) = some r:=by first|(rw [hji5] at H;exact H)|(simp only [hji5] at H ⊢; exact H)
 have hji5_ : (IntKind.u32.wrap (1 * 2 ^ min a0.toNat 32)) = ji5:=hji5
 have hji5z : a0 ≤ 32 → (IntKind.u32.wrap (1 * 2 ^ a0.toNat)) = ji5:=d_F hji5
 have hji5u : (IntKind.u32.wrap (2 ^ min a0.toNat 32)) = ji5:=by have h_:=hji5_;rw [Int.one_mul] at h_;exact h_
 have hji5v : a0 ≤ 32 → (IntKind.u32.wrap (2 ^ a0.toNat)) = ji5:=fun hle_ => by have h_:=hji5z hle_;rw [Int.one_mul] at h_;exact h_
 obtain rfl:=Option.some.inj H
 go_enter Try.func53,Try.ntmps53
 go_wp2
 go_ret
 exact ⟨by first|rfl|(simp;done)|(simp only [← hji5] <;> (first|rfl|simp))|(simp [*];done),by repeat (first|exact b_g.refl _|apply b_g.step)⟩
end Go.Proofs.Ytkhbffjfclepfaa.Q
end
section
namespace Go.Proofs.Ytkhbffjfclepfaa.Q
open Go.RowKit Go.Proofs.YtkhbffjfclepfaaW.PrintWords Go.Proofs.YtkhbffjfclepfaaW.PrintLast Go.Proofs.YtkhbffjfclepfaaW.PrintMore
set_option linter.unusedVariables false
set_option linter.unusedSimpArgs false
def b_Z.f (a0 : Int) (a1 : Int) : Option (Bool):=(b_0.f a1).bind fun t510 => (some ((Go.bits .and .u32 a0 t510) != 0))
set_option maxHeartbeats 8000000 in
set_option maxRecDepth 100000 in
theorem b_Z.calls (a0 : Int) (a1 : Int) (r : Bool) (w : World) (h : b_Z.f a0 a1 = some r) :
 Calls Try.prog 42 #[.int .u32 a0,.int .i64 a1] w fun e w' => e = .returned (.bool r) ∧ b_g w w':=by
 have H : ((b_0.f a1).bind fun t510 => (some ((Go.bits .and .u32 a0 t510) != 0))) = some r:=h
 clear h
 replace H:=Option.bind_eq_some_iff.mp H
 obtain ⟨t510,A30,H⟩:=H
 replace H : (some ((Go.bits .and .u32 a0 t510) != 0)) = some r:=H
 have A3:=a_a.mk A30
 clear A30
 obtain rfl:=Option.some.inj H
 go_enter Try.func42,Try.ntmps42
 go_wp2_with (first|((with_reducible refine a_B (f:=53) rfl ?_);refine b_f (some 7) rfl rfl Try.func53 (by kernel_rfl) rfl #[.int .i64 a1] rfl (by (try simp only [List.map_toArray,List.map_cons,List.map_nil]);first|done|rfl|(simp only [List.length_drop,List.length_take];rfl)) ?_;(with_reducible refine (b_0.calls a1 t510 _ A3.out).mono ?_);rintro e w' ⟨rfl,⟨nd,rfl⟩⟩;refine ⟨_,rfl,?_⟩))
 go_ret
 exact ⟨by first|rfl|(simp;done)|(simp [*];done),by repeat (first|exact b_g.refl _|apply b_g.step)⟩
end Go.Proofs.Ytkhbffjfclepfaa.Q
end
section
namespace Go.Proofs.Ytkhbffjfclepfaa.Q
open Go.RowKit Go.Proofs.YtkhbffjfclepfaaW.PrintWords Go.Proofs.YtkhbffjfclepfaaW.PrintLast Go.Proofs.YtkhbffjfclepfaaW.PrintMore
set_option linter.unusedVariables false
set_option linter.unusedSimpArgs false
set_option maxHeartbeats 2000000 in
theorem c_O.any (g : Nat) (lb : Array Value) (eg : ∀ args w,(callFunc g args).run Try.prog w = .ok (.enter g args) w) (p : Int → Bool) (A : Option Addr) (c : Nat) (xs : List Int) (w : World)
 (hr : Kd.C (Kd.int .u32) w A xs.length xs) (hlen : xs.length ≤ 35184372088832)
 (hp : ∀ W,Below w.heap.size w W → ∀ x ∈ xs,Calls Try.prog g (#[.int .u32 x] ++ lb) W fun e W' => e = .returned (.bool (p x)) ∧ Below W.heap.size W W') :
 Calls Try.prog 40 #[.slice A xs.length c,.func (.func g) #[] lb] w fun e w' => e = .returned (.int .i64 (idxOf p xs)) ∧ Below w.heap.size w w':=by
 have HP:=a_a.mk hp
 have HR:=a_a.mk hr
 clear hp hr
 go_enter Try.func40,Try.ntmps40
 go_wp2
 go_loopg [5,8] xs.length (fun gg _ s8 wr => ∃ kk : Nat,s8 = .int .i64 kk ∧ kk ≤ xs.length ∧ xs.length - kk ≤ gg ∧ a_a (Below w.heap.size w wr) ∧ a_a (∀ j (hj : j < kk) (hj2 : j < xs.length),p xs[j] = false))
 case atStart => exact ⟨0,rfl,Nat.zero_le _,by omega,⟨Below.refl _ _⟩,⟨fun j hj => absurd hj (Nat.not_lt_zero _)⟩⟩
 case round =>
  obtain ⟨kk,rfl,hkk,hg,HB,HN⟩:=hrel
  by_cases hlt : kk < xs.length
  rotate_left
  ·have hltz : ¬ (kk : Int) < (xs.length : Int):=by omega
   have : kk = xs.length:=by omega
   go_wp2
   go_ret
   refine ⟨?_,HB.out⟩
   rw [idxOf_miss (fun j hj => HN.out j (by omega) hj)];rfl
  have hltz : (kk : Int) < (xs.length : Int):=by omega
  obtain ⟨ad,rfl,hcell⟩:=Kd.b_w (Kd.a_8 HR.out HB.out) (kk : Int) (by omega) (by omega)
  have hx:=List.getElem_mem hlt
  have hrd : rd xs (kk : Int) = xs[kk]:=by unfold rd;simp [hlt]
  rw [hrd] at hcell
  simp only [Int.toNat_natCast] at hcell
  have hcall:=HP.out _ HB.out _ hx
  generalize hy : xs[kk] = y at hcell hcall hx
  have HY:=a_a.mk hy
  clear hy hx hrd
  cases hq : p y with
  | true =>
   rw [hq] at hcall
   go_wp2_with (go_at_fn g;refine hcall.mono ?_;rintro e w' ⟨rfl,hb'⟩)
   go_ret
   refine ⟨?_,HB.out.trans (hb'.mono (a_m HB.out))⟩
   rw [idxOf_hit hlt (by rw [HY.out];exact hq) (fun j hj => HN.out j hj (by omega))];rfl
  | false =>
   rw [hq] at hcall
   go_wp2_with (go_at_fn g;refine hcall.mono ?_;rintro e w' ⟨rfl,hb'⟩)
   go_roundg (xs.length - (kk + 1))
   case measure => omega
   case rel =>
    exact ⟨kk + 1,by go_num,by omega,by omega,⟨HB.out.trans (hb'.mono (a_m HB.out))⟩,⟨fun j hj hj2 => by
     by_cases e : j = kk
     ·subst e;rw [HY.out];exact hq
     exact HN.out j (by omega) hj2⟩⟩
def hasB (s c : Int) : Bool:=(b_Z.f s c).getD false
theorem h_g (s c : Int) : b_Z.f s c = some (hasB s c):=by
 unfold hasB
 have : ∃ b,b_Z.f s c = some b:=by
  unfold b_Z.f b_0.f
  (repeat' split) <;> first|exact ⟨_,rfl⟩|omega
 obtain ⟨b,hb⟩:=this
 rw [hb];rfl
set_option maxHeartbeats 2000000 in
theorem g_6.calls (g : Nat) (s a1 : Int) (w : World) (hb : w.heap[g]? = some (.cells #[.int .i64 a1] 3 (0,0))) :
 Calls Try.prog 41 (#[.int .u32 s] ++ #[.pointer (some ⟨g,0,none⟩)]) w fun e w' => e = .returned (.bool (hasB s a1)) ∧ Below w.heap.size w w':=by
 have hc:=(a_j hb 0).trans rfl
 have hf:=a_k hb 0
 clear hb
 have hH:=a_a.mk (h_g s a1)
 go_enter Try.func41,Try.ntmps41
 go_wp2_with (go_at_call 42;refine (b_Z.calls s a1 _ _ hH.out).mono ?_;rintro e w' ⟨rfl,hb⟩)
 go_ret
 exact ⟨rfl,hb.below⟩
def a_9.f (l0 : List Int) (a : Int) : Option Int:=if l0.length ≤ 35184372088832 then some (idxOf (fun s => hasB s a) l0) else none
theorem a_9.calls (A0 : Option Addr) (c0 : Nat) (l0 : List Int) (g : Nat) (a : Int) (r : Int) (w : World) (hr0 : Kd.C (Kd.int .u32) w A0 l0.length l0) (hc0 : l0.length ≤ c0) (hb : w.heap[g]? = some (.cells #[.int .i64 a] 3 (0,0))) (h : a_9.f l0 a = some r) :
 Calls Try.prog 40 #[.slice A0 l0.length c0,.func (.func 41) #[] #[.pointer (some ⟨g,0,none⟩)]] w fun e w' => e = .returned (.int .i64 r) ∧ Below w.heap.size w w':=by
 unfold a_9.f at h
 split at h
 case isFalse => cases h
 case isTrue hl =>
 obtain rfl:=Option.some.inj h
 exact c_O.any 41 _ (d_p Try.func41 (by kernel_rfl) rfl) _ A0 c0 l0 w hr0 hl (fun W hW x _ => g_6.calls g x a W ((hW.block _ (a_p hb)).trans hb))
end Go.Proofs.Ytkhbffjfclepfaa.Q
end
