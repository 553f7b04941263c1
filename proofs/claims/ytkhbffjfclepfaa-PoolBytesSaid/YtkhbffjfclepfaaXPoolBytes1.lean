/- Part 2 of 7 of what the row of PoolBytes stands on: contracts over the given program's functions, the plain law, the row; no condition beyond those that each theorem states. -/
import Derived.Test.YtkhbffjfclepfaaXPoolBytes0
import Derived.Test.YtkhbffjfclepfaaProg
import Derived.Shelf.Abstract
import Derived.Test.YtkhbffjfclepfaaRows
import Derived.Deep.Slices
import Derived.ChangeArms
import Derived.DataReads
import Derived.ProofKit
import Derived.OpenShut
import Derived.ChangeOld
import Derived.SizedLaws
section
namespace Go.Proofs.Ytkhbffjfclepfaa
open Go.RowKit Go.Proofs.YtkhbffjfclepfaaW.PrintWords Go.Proofs.YtkhbffjfclepfaaW.PrintLast Go.Proofs.YtkhbffjfclepfaaW.PrintMore
def Up_ (w W : World) : Prop:=Below w.heap.size w W
instance (priority:=low) up0_ (w : World) : Nonempty (Up_ w w):=⟨Below.refl _ _⟩
instance upA_ (w W : World) (o : Obj) [h : Nonempty (Up_ w W)] : Nonempty (Up_ w (W.alloc o)):=h.elim fun h => ⟨a_d h o⟩
instance upN_ (w W : World) (n : Nat) [h : Nonempty (Up_ w W)] : Nonempty (Up_ w (W.drewN n)):=h.elim fun h => ⟨a_b h n⟩
instance upD_ (w W : World) [h : Nonempty (Up_ w W)] : Nonempty (Up_ w W.drew):=h.elim fun h => ⟨d_y h⟩
theorem bup_ {w W : World} {g : Nat} {o : Obj} (h : w.heap[g]? = some o) [u : Nonempty (Up_ w W)] : W.heap[g]? = some o:=u.elim fun b => a_f h b
theorem rup_ {α : Type} {d : Kd α} {e : Nat} {w W : World} {base : Nat} {ok : Nat → Prop} {v : Value} {xs : List α} (h : d.R e w base ok v xs) [u : Nonempty (Up_ w W)] : d.R e W base ok v xs:=u.elim fun b => Kd.a_F h b
theorem lup_ {w0 w W : World} (h : Below w0.heap.size w0 w) [u : Nonempty (Up_ w W)] : Below w0.heap.size w0 W:=u.elim fun b => a_i h b
abbrev T_ : Bool:=true
abbrev F_ : Bool:=false
end Go.Proofs.Ytkhbffjfclepfaa
end
section
namespace Go.Proofs.Ytkhbffjfclepfaa.Q
open Go.RowKit Go.Proofs.YtkhbffjfclepfaaW.PrintWords Go.Proofs.YtkhbffjfclepfaaW.PrintLast Go.Proofs.YtkhbffjfclepfaaW.PrintMore
set_option linter.unusedVariables false
set_option linter.unusedSimpArgs false
def errW : Option Int → Value
 | none => .nilIface
 | some c => .iface 0 (.int .i64 c)
theorem a_z : errW none = .nilIface:=rfl
theorem a_y (c : Int) : errW (some c) = .iface 0 (.int .i64 c):=rfl
theorem info3 : (Try.prog.info? 3).map (fun i => (i.zero,i.size,i.bytes)) = some (some (.int .i64 0),1,8):=by kernel_rfl
theorem info5 : (Try.prog.info? 5).map (fun i => (i.zero,i.size,i.bytes)) = some (some (.int .u8 0),1,1):=by kernel_rfl
theorem e_n : (Try.prog.info? 31).map (fun i => (i.zero,i.size,i.bytes)) = some (some (.int .u32 0),1,4):=by kernel_rfl
structure S36 where
 f0 : Int
 f1 : Int
 f2 : Int
 f3 : Int
 f4 : Int
def z36 : S36:=⟨(0 : Int),(0 : Int),(0 : Int),(0 : Int),(0 : Int)⟩
structure S26 where
 f0 : (List Int)
def z26 : S26:=⟨([] : List Int)⟩
def k26 : Kd S26:=Kd.iso (Kd.slice 31 (Kd.int .u32)) (fun x : S26 => x.f0)
theorem h_y {w : World} {x : S26} {cs : List Value} (h : k26.K w x cs) : ∃ A0 c0,cs = [.slice A0 x.f0.length c0] ∧ x.f0.length ≤ c0 ∧ (Kd.int .u32).C w A0 x.f0.length x.f0:=by
 obtain ⟨A0,c0,rfl,l0,g0⟩:=h
 exact ⟨A0,c0,rfl,l0,g0⟩
def b_s (xs : List S26) (i : Int) : S26:=xs.getD i.toNat z26
theorem d_T {w : World} {A : Option Addr} {n : Nat} {xs : List S26} (h : Kd.C k26 w A n xs) (i : Int) (h0 : 0 ≤ i) (h1 : i < n) : ∃ ad A0 c0,A = some ad ∧ w.cell? (ad.add i.toNat) = some (.slice A0 (b_s xs i).f0.length c0) ∧ (b_s xs i).f0.length ≤ c0 ∧ (Kd.int .u32).C w A0 (b_s xs i).f0.length (b_s xs i).f0:=by
 obtain ⟨ad,c,e,_,hK,hc0⟩:=Kd.i_x h z26 i h0 h1
 have hc : ∀ j u,c[j]? = some u → w.cell? (ad.add (i.toNat * 1 + j)) = some u:=hc0
 obtain ⟨A0,c0,rfl,l0,g0⟩:=h_y hK
 exact ⟨ad,A0,c0,e,by have hq:=hc 0 _ rfl;rwa [Nat.mul_one,Nat.add_zero] at hq,l0,g0⟩
def b_l (xs : List (List Int)) (i : Int) : (List Int):=xs.getD i.toNat ([] : List Int)
theorem h_F {w : World} {A : Option Addr} {n : Nat} {xs : List (List Int)} (h : Kd.C (Kd.slice 5 (Kd.int .u8)) w A n xs) (i : Int) (h0 : 0 ≤ i) (h1 : i < n) : ∃ ad A0 c0,A = some ad ∧ w.cell? (ad.add i.toNat) = some (.slice A0 (b_l xs i).length c0) ∧ (b_l xs i).length ≤ c0 ∧ (Kd.int .u8).C w A0 (b_l xs i).length (b_l xs i):=by
 obtain ⟨ad,c,e,_,hK,hc0⟩:=Kd.i_x h ([] : List Int) i h0 h1
 have hc : ∀ j u,c[j]? = some u → w.cell? (ad.add (i.toNat * 1 + j)) = some u:=hc0
 obtain ⟨A0,c0,rfl,l0,g0⟩:=hK
 exact ⟨ad,A0,c0,e,by have hq:=hc 0 _ rfl;rwa [Nat.mul_one,Nat.add_zero] at hq,l0,g0⟩
def idxOf {α : Type} (p : α → Bool) (xs : List α) : Int:=match xs.findIdx? p with|some i => i|none => -1
theorem idxOf_hit {α : Type} {p : α → Bool} {xs : List α} {k : Nat} (hk : k < xs.length) (h : p xs[k] = true) (hb : ∀ j (hj : j < k),p (xs[j]'(by omega)) = false) : idxOf p xs = k:=by
 unfold idxOf
 have : xs.findIdx? p = some k:=by
  rw [List.findIdx?_eq_some_iff_getElem]
  exact ⟨hk,h,fun j hj => by simp [hb j hj]⟩
 rw [this]
theorem idxOf_miss {α : Type} {p : α → Bool} {xs : List α} (hb : ∀ j (hj : j < xs.length),p xs[j] = false) : idxOf p xs = -1:=by
 unfold idxOf
 have : xs.findIdx? p = none:=by
  rw [List.findIdx?_eq_none_iff]
  intro x hx
  obtain ⟨j,hj,rfl⟩:=List.getElem_of_mem hx
  exact hb j hj
 rw [this]
theorem e_L {α : Type} (p : α → Bool) (xs : List α) : decide (0 ≤ idxOf p xs) = xs.any p:=by
 unfold idxOf
 cases h : xs.findIdx? p with
 | none =>
  rw [List.findIdx?_eq_none_iff] at h
  have : xs.any p = false:=List.any_eq_false.2 fun x hx => by simp [h x hx]
  rw [this];rfl
 | some i =>
  rw [List.findIdx?_eq_some_iff_getElem] at h
  obtain ⟨hi,hp,_⟩:=h
  have : xs.any p = true:=List.any_eq_true.2 ⟨_,List.getElem_mem hi,hp⟩
  rw [this];simp
theorem g_h {α : Type} {d : Kd α} {w : World} {A : Option Addr} {m n : Nat} {xs : List α} (e : m = n) (h : d.C w A m xs) : d.C w A n xs:=e ▸ h
theorem c_m {w : World} {g j k B : Nat} {u : Value} (h : k < B) (hg : B ≤ g) : (w.setCell ⟨g,j,none⟩ u).heap[k]? = w.heap[k]?:=Below.heap_setCell w ⟨g,j,none⟩ u k (by show k ≠ g;omega)
end Go.Proofs.Ytkhbffjfclepfaa.Q
end
section
namespace Go.Proofs.Ytkhbffjfclepfaa.Q
open Go.RowKit Go.Proofs.YtkhbffjfclepfaaW.PrintWords Go.Proofs.YtkhbffjfclepfaaW.PrintLast Go.Proofs.YtkhbffjfclepfaaW.PrintMore
open Go.ChangeShapes Go.WideShapes Go.ChangeAt
set_option linter.unusedVariables false
set_option linter.unusedSimpArgs false
structure d_a (P : Program) (t : TypeId) {α : Type} (d : Kd α) (wf : α → Prop) : Prop where
 cells : P.cellsOf t = d.sz
 open_ : ∀ {H : Type} {enc : TypeId × Value → H} {w : World} {base : Nat} {spare : Nat → Bool} {held : Bool} {fuel : Nat} {cs : List Value} {x : DataW H × List MemPlace},
  DataW.trod enc P w base spare held fuel t cs = some x → ∃ v,d.K w v cs ∧ wf v
theorem d_a.int {P : Program} {t : TypeId} {k : IntKind} (ht : P.underlying t = some (.int k)) (hc : P.cellsOf t = 1) : d_a P t (Kd.int k) (fun n => (Lit.int k n).wf = true) :=
 ⟨hc,fun {H enc w base spare held fuel cs x} h => by
  cases fuel with
  | zero => simp [DataW.trod] at h
  | succ n =>
   unfold DataW.trod at h
   rw [ht] at h
   split at h <;> simp_all
   exact ⟨_,rfl,h.1.2⟩⟩
theorem d_a.bool {P : Program} {t : TypeId} (ht : P.underlying t = some .bool) (hc : P.cellsOf t = 1) : d_a P t Kd.bool (fun _ => True) :=
 ⟨hc,fun {H enc w base spare held fuel cs x} h => by
  cases fuel with
  | zero => simp [DataW.trod] at h
  | succ n =>
   unfold DataW.trod at h
   rw [ht] at h
   split at h
   all_goals first|exact ⟨_,rfl,trivial⟩|simp_all⟩
theorem f_W {α : Type} [Inhabited α] (m : Nat) (p : Nat → α → Prop) (h : ∀ i,i < m → ∃ v,p i v) : ∃ f : Nat → α, ∀ i,i < m → p i (f i):=by
 classical
 exact ⟨fun i => if hi : ∃ v,p i v then hi.choose else default,fun i hi => by
  have hx:=h i hi
  simp only [hx,dif_pos]
  exact hx.choose_spec⟩
theorem d_a.slice {P : Program} {t e : TypeId} {α : Type} {d : Kd α} {wf : α → Prop} [Inhabited α] (ht : P.underlying t = some (.slice e)) (hc : P.cellsOf t = 1) (he : d_a P e d wf) :
 d_a P t (Kd.slice e d) (fun l => l.length ≤ maxLen ∧ ∀ x ∈ l,wf x) :=
 ⟨hc,fun {H enc w base spare held fuel cs x} h => by
  rcases Go.Deep.open_slice ht h with ⟨rfl,_⟩ | ⟨a,len,cap,m,n,D,Pl,rfl,hb,hl,hm,hmm,_,hx⟩
  ·exact ⟨[],⟨none,0,rfl,Nat.le_refl _,⟨rfl,by simp,fun h => absurd h (Nat.lt_irrefl 0)⟩⟩,by simp,by simp⟩
  ·have hlm : len ≤ m:=by rw [hmm];split <;> omega
   obtain ⟨f,hf⟩:=f_W (α:=α) m (fun i v => ∃ cs',w.cells? base (a.add (i * P.cellsOf e)) (P.cellsOf e) = some cs' ∧ d.K w v cs' ∧ wf v) (fun i hi => by
    obtain ⟨cs',h1,h2⟩:=hx i hi
    obtain ⟨v,h3,h4⟩:=he.open_ h2
    exact ⟨v,cs',h1,h3,h4⟩)
   have hml : maxLen = 9223372036854775807:=rfl
   refine ⟨(List.range len).map f,⟨some a,cap,by simp,by simpa using hl,⟨by simp,by simp;omega,fun _ => ⟨a,rfl,fun j p hj => ?_⟩⟩⟩,by simp;omega,fun v hv => ?_⟩
   ·rw [List.getElem?_map] at hj
    obtain ⟨i,hi,rfl⟩:=Option.map_eq_some_iff.1 hj
    have hij : j < len:=by
     rcases Nat.lt_or_ge j len with h|h
     ·exact h
     ·rw [List.getElem?_eq_none (by simpa using h)] at hi;cases hi
    rw [List.getElem?_range hij] at hi
    injection hi with hi
    subst hi
    obtain ⟨cs',h1,h2,h3⟩:=hf j (by omega)
    obtain ⟨_,h4,h5⟩:=World.cells?_some h1
    rw [he.cells] at h4 h5 h1
    refine ⟨cs',h4,h2,fun i u hu => ?_⟩
    have hil : i < d.sz:=by
     rw [← h4]
     exact (List.getElem?_eq_some_iff.1 hu).1
    rw [show j * d.sz + i = j * d.sz + i from rfl, ← add_add,h5 i hil]
    exact hu
   ·obtain ⟨j,hj,rfl⟩:=List.mem_map.1 hv
    obtain ⟨_,_,_,h3⟩:=hf j (by have:=List.mem_range.1 hj;omega)
    exact h3⟩
theorem e_U {P : Program} {H : Type} {enc : TypeId × Value → H} {w : World} {base : Nat} {spare : Nat → Bool} {held : Bool} {fuel : Nat} {t : TypeId} {cs : List Value} {x : DataW H × List MemPlace} {fs : Array Field}
 (ht : P.underlying t = some (.struct fs)) (h : DataW.trod enc P w base spare held fuel t cs = some x) (i : Nat) {f : Field} (hf : fs[i]? = some f) {α : Type} {d : Kd α} {wf : α → Prop} (ho : d_a P f.type d wf) :
 ∃ v,d.K w v ((cs.drop f.offset).take d.sz) ∧ wf v:=by
 obtain ⟨xs,n,_,_,_,hl,hx⟩:=DataW.trod_struct ht h
 have h1:=hx i f hf
 have hi : i < xs.length:=by rw [hl];exact (Array.getElem?_eq_some_iff.1 hf).1
 rw [List.getElem?_eq_getElem hi,ho.cells] at h1
 exact ho.open_ h1
theorem e_P {P : Program} {H : Type} {enc : TypeId × Value → H} {w : World} {base : Nat} {spare : Nat → Bool} {held : Bool} {fuel : Nat} {t : TypeId} {cs : List Value} {x : DataW H × List MemPlace} {fs : Array Field}
 (ht : P.underlying t = some (.struct fs)) (h : DataW.trod enc P w base spare held fuel t cs = some x) : cs.length = P.cellsOf t:=by
 obtain ⟨xs,n,_,_,hl,_⟩:=DataW.trod_struct ht h
 exact hl
theorem d_J {α : Type} {cs : List α} {n : Nat} (h : cs.length = n + 1) : ∃ a l,cs = a :: l ∧ l.length = n:=by
 cases cs with
 | nil => simp at h
 | cons a l => exact ⟨a,l,rfl,by simpa using h⟩
theorem own : ownKnob Try.prog.godebug = none:=by kernel_rfl
theorem laidOut : laidOutB Try.prog = true:=by kernel_rfl
instance : Inhabited S26:=⟨z26⟩
def wf26 (x : S26) : Prop:=(fun l => l.length ≤ maxLen ∧ ∀ x ∈ l,(fun n => (Lit.int .u32 n).wf = true) x) x.f0
theorem op26 : d_a Try.prog 26 k26 wf26 :=
 ⟨by kernel_rfl,fun {H enc w base spare held fuel cs x} h => by
  have hl : cs.length = 1:=(e_P Try.underlying26 h).trans (by kernel_rfl)
  obtain ⟨v0,h0,w0⟩:=e_U Try.underlying26 h 0 rfl (d_a.slice Try.underlying24 (by kernel_rfl) (d_a.int Try.underlying31 (by kernel_rfl)))
  obtain ⟨c0,l0,rfl,hm0⟩:=d_J hl
  obtain rfl:=List.eq_nil_of_length_eq_zero hm0
  exact ⟨⟨v0⟩,h0,w0⟩⟩
instance : Inhabited S36:=⟨z36⟩
end Go.Proofs.Ytkhbffjfclepfaa.Q
end
section
namespace Go.Proofs.Ytkhbffjfclepfaa.Q
open Go.RowKit Go.Proofs.YtkhbffjfclepfaaW.PrintWords Go.Proofs.YtkhbffjfclepfaaW.PrintLast Go.Proofs.YtkhbffjfclepfaaW.PrintMore
set_option linter.unusedVariables false
set_option linter.unusedSimpArgs false
def a_7.f (l0_0 : List Int) : Option (List Int):=(some (([] : List Int) : List Int)).bind fun y144 => (if y144.length + l0_0.length < 35184372088832 then (some (y144 ++ l0_0)) else (none))
set_option maxHeartbeats 8000000 in
set_option maxRecDepth 100000 in
theorem a_7.calls (A0_0 : Option Addr) (c0_0 : Nat) (l0_0 : List Int) (r : List Int) (w : World) (hr0_0 : Kd.C (Kd.int .u32) w A0_0 l0_0.length l0_0) (hc0_0 : l0_0.length ≤ c0_0) (h : a_7.f l0_0 = some r) :
 Calls Try.prog 15 #[.agg #[.slice A0_0 l0_0.length c0_0]] w fun e w' => ∃ v0_ : Value,e = .returned (.agg #[v0_]) ∧ Kd.R (Kd.int .u32) 31 w' w.heap.size (fun _ => True) v0_ r ∧ Below w.heap.size w w':=by
 have hu26:=Try.underlying26
 have b_U:=a_a.mk hr0_0
 have c_K:=a_a.mk hc0_0
 clear hr0_0 hc0_0
 have HB:=a_a.mk (Below.refl w.heap.size w)
 have H : ((some (([] : List Int) : List Int)).bind fun y144 => (if y144.length + l0_0.length < 35184372088832 then (some (y144 ++ l0_0)) else (none))) = some r:=h
 clear h
 obtain ⟨y144,hy144⟩ : ∃ y_ : List Int,y_ = (([] : List Int)):=⟨_,rfl⟩
 replace H : (if y144.length + l0_0.length < 35184372088832 then (some (y144 ++ l0_0)) else (none)) = some r:=by first|(rw [hy144];with_reducible exact H)|(have H2_:=(Option.bind_some _ _).symm.trans H;rw [hy144];with_reducible exact H2_)|(have H2_:=(Option.bind_some _ _).symm.trans H;with_reducible exact H2_)|with_reducible exact H|(rw [hy144];exact H)|exact H
 have Ny144:=a_a.mk hy144
 clear hy144
 by_cases c2 : y144.length + l0_0.length < 35184372088832
 rotate_left
 ·rw [if_neg c2] at H
  exact absurd H (by simp)
 rw [if_pos c2] at H
 have LMc2:=a_a.mk c2
 clear c2
 obtain ⟨y147,hy147⟩ : ∃ y_ : List Int,y_ = (y144 ++ l0_0):=⟨_,rfl⟩
 replace H : (some y147) = some r:=by first|(rw [hy147];with_reducible exact H)|(have H2_:=(Option.bind_some _ _).symm.trans H;rw [hy147];with_reducible exact H2_)|(have H2_:=(Option.bind_some _ _).symm.trans H;with_reducible exact H2_)|with_reducible exact H|(rw [hy147];exact H)|exact H
 have Ny147:=a_a.mk hy147
 clear hy147
 obtain rfl:=Option.some.inj H
 go_enter Try.func15,Try.ntmps15
 go_wp2_with (first|((with_reducible refine a_w (N:=1) rfl ?_);refine a_v ?hg (N:=1) ?hd (cs:=#[.slice A0_0 l0_0.length c0_0]) (t:=26) ?hr ?_;(case hd => rfl);(case hg => rfl);(case hr => first|(go_simp;done)|(go_simp;rfl));intro f_1 hg w3 hbox hb;have d_5:=a_a.mk (hbox);have k_t:=a_a.mk ((by rw [hg];exact (a_j (lup_ HB.out)) : w.heap.size ≤ f_1));have e_Y:=a_a.mk ((by rw [hg];exact (a_j (lup_ HB.out)) : w.heap.size ≤ f_1));replace HB:=a_a.mk (a_i (lup_ HB.out) hb);clear hb hbox hg)|((with_reducible refine a_w (N:=2) rfl ?_);refine a_v ?hg (N:=2) ?hd (cs:=#[.slice none 0 0]) (t:=26) ?hr ?_;(case hd => rfl);(case hg => rfl);(case hr => first|(go_simp;done)|(go_simp;rfl));intro e_Z hg w4 hbox hb;have e_y:=a_a.mk (hbox);have k_u:=a_a.mk ((by rw [hg];exact (a_j (by repeat (first|(with_reducible first|exact HB.out|apply a_d|apply a_b|apply a_e|refine a_c ?_ e_Y.out)|exact HB.out))) : w.heap.size ≤ e_Z));have g_t:=a_a.mk ((by rw [hg];exact (a_j (by repeat (first|(with_reducible first|exact HB.out|apply a_d|apply a_b|apply a_e|refine a_c ?_ e_Y.out)|exact HB.out))) : w.heap.size ≤ e_Z));have g_u:=a_a.mk ((by rw [hg];exact Nat.ne_of_lt (a_o (bup_ d_5.out)) : f_1 ≠ e_Z));have g_v:=a_a.mk ((by rw [hg];exact Nat.ne_of_gt (a_o (bup_ d_5.out)) : e_Z ≠ f_1));replace d_5:=a_a.mk (a_f (bup_ d_5.out) hb);replace HB:=a_a.mk (a_i (by repeat (first|(with_reducible first|exact HB.out|apply a_d|apply a_b|apply a_e|refine a_c ?_ e_Y.out)|exact HB.out)) hb);clear hb hbox hg)|((with_reducible refine a_w (N:=3) rfl ?_);refine Kd.c_T (Kd.int .u32) _ 31 ?hg (N:=3) ?hd (xs:=([] : List Int)) (inner:=[]) (ok:=fun _ => True) (okp:=fun _ => True) ?hr ?hp (fun _ hk => hk) trivial (Below.refl _ _) (Nat.le_refl _) (by simp) ?_;(case hd => rfl);(case hg => rfl);(case hr => first|(go_simp;done)|(go_simp;rfl));(case hp => exact (Reps.none _ _));intro v145 w5 ho6 hb hg_ hnew_;clear hg_ hnew_;(first|rw [← Ny144.out] at ho6|(simp only [Int.reduceToNat] at ho6;rw [← Ny144.out] at ho6));have h_G:=a_a.mk (Kd.a_S ho6 (a_j (by repeat (first|(with_reducible first|exact HB.out|apply a_d|apply a_b|apply a_e|refine a_c ?_ e_Y.out|refine a_c ?_ g_t.out)|exact HB.out))));replace d_5:=a_a.mk (a_f (bup_ d_5.out) hb);replace e_y:=a_a.mk (a_f (bup_ e_y.out) hb);replace HB:=a_a.mk (a_i (by repeat (first|(with_reducible first|exact HB.out|apply a_d|apply a_b|apply a_e|refine a_c ?_ e_Y.out|refine a_c ?_ g_t.out)|exact HB.out)) hb);clear hb ho6;have hnb7:=g_u.out;have hnc7:=g_v.out;have d_6 : w5.cell? ⟨f_1,0,none⟩ = some (.slice A0_0 l0_0.length c0_0):=(a_m d_5.out 0).trans rfl;have d_7:=a_k d_5.out 0)|((with_reducible refine b_a (b:=.append) (xs:=#[.tmp 3,.tmp 5]) rfl ?_);at_builtin;refine Kd.b_w (Kd.int .u32) (w0:=w) w.heap.size rfl (.tmp 3) (.tmp 5) 24 31 (.int .u32 0) 4 rfl Try.underlying24 e_n rfl (by decide) (by omega) v145 y144 l0_0 _ _ _ (fun _ => True) (fun _ => False) rfl rfl ?aO ?aR (fun _ _ h => h) (fun _ h => h.elim) ?aF ?aB ?aS ?aL ?_;(case aR => repeat (first|exact (Kd.a_O b_U.out HB.out)|(with_reducible refine Kd.a_Q ?_ _)|(with_reducible refine Kd.a_R ?_ _)|(with_reducible refine Kd.a_0 ?_)));(case aB => exact (by repeat (first|(with_reducible first|exact HB.out|apply a_d|apply a_b|apply a_e|refine a_c ?_ e_Y.out|refine a_c ?_ g_t.out)|exact HB.out)));(case aF => exact (fun _ _ => trivial));(case aO => exact (rup_ h_G.out));(case aS => exact (a_j (by repeat (first|(with_reducible first|exact HB.out|apply a_d|apply a_b|apply a_e|refine a_c ?_ e_Y.out|refine a_c ?_ g_t.out)|exact HB.out))));(case aL => have:=LMc2.out;omega);intro v148 w9 ho hb hg hat;rw [← Ny147.out] at ho;have i_H:=a_a.mk (ho);replace d_5:=a_a.mk (b_q (g:=f_1) (o:=.cells #[.slice A0_0 l0_0.length c0_0] 26 (0,0)) (bup_ d_5.out) hg (Kd.R_ne h_G.out d_5.out (by decide)));replace e_y:=a_a.mk (b_q (g:=e_Z) (o:=.cells #[.slice none 0 0] 26 (0,0)) (bup_ e_y.out) hg (Kd.R_ne h_G.out e_y.out (by decide)));replace HB:=a_a.mk (hb);clear h_G ho hb hg hat;obtain ⟨Ao10,co10,eo10⟩:=Kd.a_P i_H.out;subst eo10;have i_d : w9.cell? ⟨e_Z,0,none⟩ = some (.slice none 0 0):=(a_m e_y.out 0).trans rfl;have i_e:=a_k e_y.out 0))
 refine bodyPost_ret (results_cell_row rfl _ _ e_Z 26 #[.slice Ao10 y147.length co10] (0,0) _ rfl (by (with_reducible repeat (first|refine a_n ?_ _|refine a_q ?_|refine a_s ?_ _));refine a_L (cs:=#[.slice none 0 0]) ?_ 0 _ rfl;(with_reducible repeat (first|refine a_n ?_ _|refine a_q ?_|refine a_s ?_ _));exact e_y.out) Try.underlying26 rfl (by kernel_rfl)) rfl ?_
 exact ⟨_,by first|rfl|(simp [a_z,a_y] <;> rfl)|(simp [*, a_z,a_y] <;> rfl),by (with_reducible repeat (first|apply Kd.a_J|apply Kd.a_I|apply Kd.a_M));exact Kd.a_U (Kd.b_i (p:=⟨e_Z,0,none⟩) (Kd.a_N i_H.out e_y.out (by decide)) (fun _ hk => hk.2) (.slice Ao10 y147.length co10)) (fun _ hk => trivial),by repeat (first|(with_reducible first|exact HB.out|apply a_d|apply a_b|apply a_e|refine a_c ?_ e_Y.out|refine a_c ?_ g_t.out)|exact HB.out)⟩
end Go.Proofs.Ytkhbffjfclepfaa.Q
end
section
namespace Go.Proofs.Ytkhbffjfclepfaa.Q
open Go.RowKit Go.Proofs.YtkhbffjfclepfaaW.PrintWords Go.Proofs.YtkhbffjfclepfaaW.PrintLast Go.Proofs.YtkhbffjfclepfaaW.PrintMore
set_option linter.unusedVariables false
set_option linter.unusedSimpArgs false
def a_T.f (l0_0 : List Int) : Option (List Int):=if 0 ≤ (mn (l0_0.length : Int) 12) then (if (mn (l0_0.length : Int) 12) ≤ (l0_0.length : Int) then ((a_7.f (l0_0.take ((mn (l0_0.length : Int) 12) : Int).toNat)).bind fun t153 => (some t153)) else (none)) else (none)
set_option maxHeartbeats 8000000 in
set_option maxRecDepth 100000 in
theorem a_T.calls (A0_0 : Option Addr) (c0_0 : Nat) (l0_0 : List Int) (r : List Int) (w : World) (hr0_0 : Kd.C (Kd.int .u32) w A0_0 l0_0.length l0_0) (hc0_0 : l0_0.length ≤ c0_0) (h : a_T.f l0_0 = some r) :
 Calls Try.prog 11 #[.agg #[.slice A0_0 l0_0.length c0_0]] w fun e w' => ∃ v0_ : Value,e = .returned (.agg #[v0_]) ∧ Kd.R (Kd.int .u32) 31 w' w.heap.size (fun _ => True) v0_ r ∧ Below w.heap.size w w':=by
 have hu26:=Try.underlying26
 have b_U:=a_a.mk hr0_0
 have c_K:=a_a.mk hc0_0
 clear hr0_0 hc0_0
 have HB:=a_a.mk (Below.refl w.heap.size w)
 have H : (if 0 ≤ (mn (l0_0.length : Int) 12) then (if (mn (l0_0.length : Int) 12) ≤ (l0_0.length : Int) then ((a_7.f (l0_0.take ((mn (l0_0.length : Int) 12) : Int).toNat)).bind fun t153 => (some t153)) else (none)) else (none)) = some r:=h
 clear h
 obtain ⟨ji2,hji2⟩ : ∃ j_ : Int,(mn (l0_0.length : Int) 12) = j_:=⟨_,rfl⟩
 replace H : (if 0 ≤ (ji2) then (if (ji2) ≤ (l0_0.length : Int) then ((a_7.f (l0_0.take ((ji2) : Int).toNat)).bind fun t153 => (some t153)) else (none)) else (none)) = some r:=by first|(rw [hji2] at H;exact H)|(simp only [hji2] at H ⊢; exact H)
 (try (have hji2h : ji2 ≤ 12:=by (rw [← hji2];unfold mn;(repeat' split) <;> omega)))
 (try (have hji2g : ji2 ≤ 64:=by omega))
 (try (have hji2l : 0 ≤ ji2:=by (rw [← hji2];unfold mn;(repeat' split) <;> omega)))
 (try (have hji2m : 0 ≤ ji2:=by omega))
 have hji2_ : (if 12 < (l0_0.length : Int) then 12 else (l0_0.length : Int)) = ji2:=hji2
 by_cases c3 : 0 ≤ (ji2)
 rotate_left
 ·rw [if_neg c3] at H
  exact absurd H (by simp)
 rw [if_pos c3] at H
 have c3b0:=eq_true c3
 have c3b1 : decide (0 ≤ (ji2)) = true:=decide_eq_true c3
 clear c3
 by_cases c4 : (ji2) ≤ (l0_0.length : Int)
 rotate_left
 ·rw [if_neg c4] at H
  exact absurd H (by simp)
 rw [if_pos c4] at H
 have c4b0:=eq_true c4
 have c4b1 : decide ((ji2) ≤ (l0_0.length : Int)) = true:=decide_eq_true c4
 clear c4
 replace H:=Option.bind_eq_some_iff.mp H
 obtain ⟨t153,A50,H⟩:=H
 replace H : (some t153) = some r:=H
 have A5:=a_a.mk A50
 clear A50
 obtain rfl:=Option.some.inj H
 go_enter Try.func11,Try.ntmps11
 go_wp2_with (first|((with_reducible refine a_w (N:=1) rfl ?_);refine a_v ?hg (N:=1) ?hd (cs:=#[.slice A0_0 l0_0.length c0_0]) (t:=26) ?hr ?_;(case hd => rfl);(case hg => rfl);(case hr => first|(go_simp;done)|(go_simp;rfl));intro g_w hg w6 hbox hb;have e_0:=a_a.mk (hbox);have k_v:=a_a.mk ((by rw [hg];exact (a_j (lup_ HB.out)) : w.heap.size ≤ g_w));have f_2:=a_a.mk ((by rw [hg];exact (a_j (lup_ HB.out)) : w.heap.size ≤ g_w));replace HB:=a_a.mk (a_i (lup_ HB.out) hb);clear hb hbox hg)|((with_reducible refine a_w (N:=2) rfl ?_);refine a_v ?hg (N:=2) ?hd (cs:=#[.slice none 0 0]) (t:=26) ?hr ?_;(case hd => rfl);(case hg => rfl);(case hr => first|(go_simp;done)|(go_simp;rfl));intro f_j hg w7 hbox hb;have f_3:=a_a.mk (hbox);have k_w:=a_a.mk ((by rw [hg];exact (a_j (by repeat (first|(with_reducible first|exact HB.out|apply a_d|apply a_b|apply a_e|refine a_c ?_ f_2.out)|exact HB.out))) : w.heap.size ≤ f_j));have i_f:=a_a.mk ((by rw [hg];exact (a_j (by repeat (first|(with_reducible first|exact HB.out|apply a_d|apply a_b|apply a_e|refine a_c ?_ f_2.out)|exact HB.out))) : w.heap.size ≤ f_j));have g_x:=a_a.mk ((by rw [hg];exact Nat.ne_of_lt (a_o (bup_ e_0.out)) : g_w ≠ f_j));have g_y:=a_a.mk ((by rw [hg];exact Nat.ne_of_gt (a_o (bup_ e_0.out)) : f_j ≠ g_w));replace e_0:=a_a.mk (a_f (bup_ e_0.out) hb);replace HB:=a_a.mk (a_i (by repeat (first|(with_reducible first|exact HB.out|apply a_d|apply a_b|apply a_e|refine a_c ?_ f_2.out)|exact HB.out)) hb);clear hb hbox hg;have hnb8:=g_x.out;have hnc8:=g_y.out;have k_l : w7.cell? ⟨g_w,0,none⟩ = some (.slice A0_0 l0_0.length c0_0):=(a_m e_0.out 0).trans rfl;have k_m:=a_k e_0.out 0;obtain ⟨i010,e_1,_,hsz10,_⟩:=info_parts e_n;obtain ⟨hcut10,hA10,hC10⟩:=c_h (P:=Try.prog) (Value.int .u32) 0 24 31 .i64 Try.underlying24 e_1 hsz10 A0_0 c0_0 l0_0 (ji2) (of_decide_eq_true (by first|(with_reducible assumption)|assumption)) (of_decide_eq_true (by first|(with_reducible assumption)|assumption)) c_K.out;have j_s:=a_a.mk (Kd.c_k (h1:=fun _ => rfl) (hA10 _ (Kd.b_0 b_U.out)));have j_t:=a_a.mk hC10;clear hA10 hC10 e_1 hsz10)|((with_reducible refine a_B (f:=15) rfl ?_);refine a_X (some 11) rfl rfl Try.func15 (by kernel_rfl) rfl #[.agg #[.slice A0_0 (l0_0.take ((ji2) : Int).toNat).length c0_0]] rfl (by (try simp only [List.map_toArray,List.map_cons,List.map_nil]);first|done|(rw [show (l0_0.take ((ji2) : Int).toNat).length = (ji2).toNat from (by rw [List.length_take];have h_ : ((ji2) : Int) ≤ (l0_0.length : Int):=of_decide_eq_true (by first|(with_reducible assumption)|assumption);omega)] <;> rfl)|(simp only [hji2];rfl)|rfl|(simp only [List.length_drop,List.length_take];rfl)) ?_;(with_reducible refine (a_7.calls _ _ (l0_0.take ((ji2) : Int).toNat) t153 _ ?side1 ?side2 A5.out).mono ?_);(case side1 => repeat (first|exact (Kd.a_O j_s.out HB.out)|(with_reducible refine Kd.a_Q ?_ _)|(with_reducible refine Kd.a_R ?_ _)|(with_reducible refine Kd.a_0 ?_)));(case side2 => exact j_t.out);rintro e w11 ⟨v154,rfl,ho0,hb⟩;refine ⟨_,rfl,?_⟩;have i_I:=a_a.mk (Kd.a_S ho0 (a_j (by repeat (first|(with_reducible first|exact HB.out|apply a_d|apply a_b|apply a_e|refine a_c ?_ f_2.out|refine a_c ?_ i_f.out)|exact HB.out))));replace e_0:=a_a.mk (a_f (bup_ e_0.out) hb);replace f_3:=a_a.mk (a_f (bup_ f_3.out) hb);replace HB:=a_a.mk (a_i (by repeat (first|(with_reducible first|exact HB.out|apply a_d|apply a_b|apply a_e|refine a_c ?_ f_2.out|refine a_c ?_ i_f.out)|exact HB.out)) hb);(try clear hb);(try clear hb2);(try clear hk);(try clear hi);(try clear ho0);obtain ⟨Ao12,co12,eo12⟩:=Kd.a_P i_I.out;subst eo12;have i_g : w11.cell? ⟨f_j,0,none⟩ = some (.slice none 0 0):=(a_m f_3.out 0).trans rfl;have i_h:=a_k f_3.out 0))
 refine bodyPost_ret (results_cell_row rfl _ _ f_j 26 #[.slice Ao12 t153.length co12] (0,0) _ rfl (by (with_reducible repeat (first|refine a_n ?_ _|refine a_q ?_|refine a_s ?_ _));refine a_L (cs:=#[.slice none 0 0]) ?_ 0 _ rfl;(with_reducible repeat (first|refine a_n ?_ _|refine a_q ?_|refine a_s ?_ _));exact f_3.out) Try.underlying26 rfl (by kernel_rfl)) rfl ?_
 exact ⟨_,by first|rfl|(simp [a_z,a_y] <;> rfl)|(simp only [← hji2];first|rfl|(simp [a_z,a_y] <;> rfl))|(simp [*, a_z,a_y] <;> rfl),by (with_reducible repeat (first|apply Kd.a_J|apply Kd.a_I|apply Kd.a_M));exact Kd.a_U (Kd.b_i (p:=⟨f_j,0,none⟩) (Kd.a_N i_I.out f_3.out (by decide)) (fun _ hk => hk.2) (.slice Ao12 t153.length co12)) (fun _ hk => trivial),by repeat (first|(with_reducible first|exact HB.out|apply a_d|apply a_b|apply a_e|refine a_c ?_ f_2.out|refine a_c ?_ i_f.out)|exact HB.out)⟩
end Go.Proofs.Ytkhbffjfclepfaa.Q
end
section
namespace Go.Proofs.Ytkhbffjfclepfaa.Q
open Go.RowKit Go.Proofs.YtkhbffjfclepfaaW.PrintWords Go.Proofs.YtkhbffjfclepfaaW.PrintLast Go.Proofs.YtkhbffjfclepfaaW.PrintMore
set_option linter.unusedVariables false
set_option linter.unusedSimpArgs false
def a_r.l0 : Nat → Int → Int → List Int → List Int → Option (Bool)
 | 0,_,_,_,_ => none
 | k + 1,x15,x16,x258000,x259000 => if x16 < x15 then (if 0 ≤ x16 then (if x16 < (x258000.length : Int) then (if x16 < (x259000.length : Int) then (if (rd x258000 x16) = (rd x259000 x16) then (a_r.l0 k x15 (wrap64 (x16 + 1)) x258000 x259000) else (some false)) else (none)) else (none)) else (none)) else (some true)
def a_r.f (k : Nat) (l0_0 : List Int) (l1_0 : List Int) : Option (Bool):=if (l0_0.length : Int) = (l1_0.length : Int) then (a_r.l0 k (l0_0.length : Int) 0 l0_0 l1_0) else (some false)
theorem a_r.b_x : ∀ k,(∀ y0 y1 y2 y3,LeO (a_r.l0 k y0 y1 y2 y3) (a_r.l0 (k + 1) y0 y1 y2 y3))
 | 0 => fun _ _ _ _ r h => by simp [a_r.l0] at h
 | k + 1 => by
  have ih0:=a_r.b_x k
  ·intro y0 y1 y2 y3
   unfold a_r.l0
   repeat' first
   | (with_reducible exact ih0 _ _ _ _)
   | (with_reducible exact LeO.refl _)
   | (with_reducible exact LeO.none _)
   | (with_reducible refine LeO.ite ?_ ?_)
   | (with_reducible refine LeO.bind ?_ (fun _ => ?_))
   | exact ih0 _ _ _ _
   | exact LeO.none _
   | refine LeO.ite ?_ ?_
   | refine LeO.bind ?_ (fun _ => ?_)
theorem a_r.mono : ∀ a0 a1 k,LeO (a_r.f k a0 a1) (a_r.f (k + 1) a0 a1):=by
 intro a0 a1 k
 have ih0:=a_r.b_x k
 unfold a_r.f
 repeat' first
  | (with_reducible exact ih0 _ _ _ _)
  | (with_reducible exact LeO.refl _)
  | (with_reducible exact LeO.none _)
  | (with_reducible refine LeO.ite ?_ ?_)
  | (with_reducible refine LeO.bind ?_ (fun _ => ?_))
  | exact ih0 _ _ _ _
  | exact LeO.none _
  | refine LeO.ite ?_ ?_
  | refine LeO.bind ?_ (fun _ => ?_)
set_option maxHeartbeats 8000000 in
set_option maxRecDepth 100000 in
theorem a_r.calls (k : Nat) (A0_0 : Option Addr) (c0_0 : Nat) (l0_0 : List Int) (A1_0 : Option Addr) (c1_0 : Nat) (l1_0 : List Int) (r : Bool) (w : World) (hr0_0 : Kd.C (Kd.int .u32) w A0_0 l0_0.length l0_0) (hc0_0 : l0_0.length ≤ c0_0) (hr1_0 : Kd.C (Kd.int .u32) w A1_0 l1_0.length l1_0) (hc1_0 : l1_0.length ≤ c1_0) (h : a_r.f k l0_0 l1_0 = some r) :
 Calls Try.prog 14 #[.agg #[.slice A0_0 l0_0.length c0_0],.agg #[.slice A1_0 l1_0.length c1_0]] w fun e w' => e = .returned (.bool r) ∧ Below w.heap.size w w':=by
 have hu26:=Try.underlying26
 have b_U:=a_a.mk hr0_0
 have c_K:=a_a.mk hc0_0
 clear hr0_0 hc0_0
 have i_J:=a_a.mk hr1_0
 have k_x:=a_a.mk hc1_0
 clear hr1_0 hc1_0
 have HB:=a_a.mk (Below.refl w.heap.size w)
 have H : (if (l0_0.length : Int) = (l1_0.length : Int) then (a_r.l0 k (l0_0.length : Int) 0 l0_0 l1_0) else (some false)) = some r:=h
 clear h
 by_cases c3 : (l0_0.length : Int) = (l1_0.length : Int)
 rotate_left
 ·rw [if_neg c3] at H
  have c3b0 : ((l0_0.length : Int) == (l1_0.length : Int)) = false:=beq_eq_false_iff_ne.mpr c3
  have c3b1 : ((l0_0.length : Int) != (l1_0.length : Int)) = true:=bne_iff_ne.mpr c3
  have c3b2 : (l0_0.length == l1_0.length) = false:=by first|simpa using c3|(simp at c3 ⊢; omega)
  obtain rfl:=Option.some.inj H
  go_enter Try.func14,Try.ntmps14
  go_wp2_with (first|((with_reducible refine a_w (N:=2) rfl ?_);refine a_v ?hg (N:=2) ?hd (cs:=#[.slice A0_0 l0_0.length c0_0]) (t:=26) ?hr ?_;(case hd => rfl);(case hg => rfl);(case hr => first|(go_simp;done)|(go_simp;rfl));intro b_F hg w20 hbox hb;have b_r:=a_a.mk (hbox);have g_z:=a_a.mk ((by rw [hg];exact (a_j (lup_ HB.out)) : w.heap.size ≤ b_F));have b_6:=a_a.mk ((by rw [hg];exact (a_j (lup_ HB.out)) : w.heap.size ≤ b_F));replace HB:=a_a.mk (a_i (lup_ HB.out) hb);clear hb hbox hg)|((with_reducible refine a_w (N:=3) rfl ?_);refine a_v ?hg (N:=3) ?hd (cs:=#[.slice A1_0 l1_0.length c1_0]) (t:=26) ?hr ?_;(case hd => rfl);(case hg => rfl);(case hr => first|(go_simp;done)|(go_simp;rfl));intro b_G hg w21 hbox hb;have c_i:=a_a.mk (hbox);have g_A:=a_a.mk ((by rw [hg];exact (a_j (by repeat (first|(with_reducible first|exact HB.out|apply a_d|apply a_b|apply a_e|refine a_c ?_ b_6.out)|exact HB.out))) : w.heap.size ≤ b_G));have e_i:=a_a.mk ((by rw [hg];exact (a_j (by repeat (first|(with_reducible first|exact HB.out|apply a_d|apply a_b|apply a_e|refine a_c ?_ b_6.out)|exact HB.out))) : w.heap.size ≤ b_G));have b_A:=a_a.mk ((by rw [hg];exact Nat.ne_of_lt (a_o (bup_ b_r.out)) : b_F ≠ b_G));have b_B:=a_a.mk ((by rw [hg];exact Nat.ne_of_gt (a_o (bup_ b_r.out)) : b_G ≠ b_F));replace b_r:=a_a.mk (a_f (bup_ b_r.out) hb);replace HB:=a_a.mk (a_i (by repeat (first|(with_reducible first|exact HB.out|apply a_d|apply a_b|apply a_e|refine a_c ?_ b_6.out)|exact HB.out)) hb);clear hb hbox hg;have i_K:=b_A.out;have i_L:=b_B.out;have f_k : w21.cell? ⟨b_F,0,none⟩ = some (.slice A0_0 l0_0.length c0_0):=(a_m b_r.out 0).trans rfl;have f_l:=a_k b_r.out 0;have f_m : w21.cell? ⟨b_G,0,none⟩ = some (.slice A1_0 l1_0.length c1_0):=(a_m c_i.out 0).trans rfl;have f_n:=a_k c_i.out 0))
  repeat (go_quiet (first|((with_reducible refine a_w (N:=2) rfl ?_);refine a_v ?hg (N:=2) ?hd (cs:=#[.slice A0_0 l0_0.length c0_0]) (t:=26) ?hr ?_;(case hd => rfl);(case hg => rfl);(case hr => first|(go_simp;done)|(go_simp;rfl));intro b_F hg w20 hbox hb;have b_r:=a_a.mk (hbox);have g_z:=a_a.mk ((by rw [hg];exact (a_j (lup_ HB.out)) : w.heap.size ≤ b_F));have b_6:=a_a.mk ((by rw [hg];exact (a_j (lup_ HB.out)) : w.heap.size ≤ b_F));replace HB:=a_a.mk (a_i (lup_ HB.out) hb);clear hb hbox hg)|((with_reducible refine a_w (N:=3) rfl ?_);refine a_v ?hg (N:=3) ?hd (cs:=#[.slice A1_0 l1_0.length c1_0]) (t:=26) ?hr ?_;(case hd => rfl);(case hg => rfl);(case hr => first|(go_simp;done)|(go_simp;rfl));intro b_G hg w21 hbox hb;have c_i:=a_a.mk (hbox);have g_A:=a_a.mk ((by rw [hg];exact (a_j (by repeat (first|(with_reducible first|exact HB.out|apply a_d|apply a_b|apply a_e|refine a_c ?_ b_6.out)|exact HB.out))) : w.heap.size ≤ b_G));have e_i:=a_a.mk ((by rw [hg];exact (a_j (by repeat (first|(with_reducible first|exact HB.out|apply a_d|apply a_b|apply a_e|refine a_c ?_ b_6.out)|exact HB.out))) : w.heap.size ≤ b_G));have b_A:=a_a.mk ((by rw [hg];exact Nat.ne_of_lt (a_o (bup_ b_r.out)) : b_F ≠ b_G));have b_B:=a_a.mk ((by rw [hg];exact Nat.ne_of_gt (a_o (bup_ b_r.out)) : b_G ≠ b_F));replace b_r:=a_a.mk (a_f (bup_ b_r.out) hb);replace HB:=a_a.mk (a_i (by repeat (first|(with_reducible first|exact HB.out|apply a_d|apply a_b|apply a_e|refine a_c ?_ b_6.out)|exact HB.out)) hb);clear hb hbox hg;have i_K:=b_A.out;have i_L:=b_B.out;have f_k : w21.cell? ⟨b_F,0,none⟩ = some (.slice A0_0 l0_0.length c0_0):=(a_m b_r.out 0).trans rfl;have f_l:=a_k b_r.out 0;have f_m : w21.cell? ⟨b_G,0,none⟩ = some (.slice A1_0 l1_0.length c1_0):=(a_m c_i.out 0).trans rfl;have f_n:=a_k c_i.out 0));try go_wp2_with (first|((with_reducible refine a_w (N:=2) rfl ?_);refine a_v ?hg (N:=2) ?hd (cs:=#[.slice A0_0 l0_0.length c0_0]) (t:=26) ?hr ?_;(case hd => rfl);(case hg => rfl);(case hr => first|(go_simp;done)|(go_simp;rfl));intro b_F hg w20 hbox hb;have b_r:=a_a.mk (hbox);have g_z:=a_a.mk ((by rw [hg];exact (a_j (lup_ HB.out)) : w.heap.size ≤ b_F));have b_6:=a_a.mk ((by rw [hg];exact (a_j (lup_ HB.out)) : w.heap.size ≤ b_F));replace HB:=a_a.mk (a_i (lup_ HB.out) hb);clear hb hbox hg)|((with_reducible refine a_w (N:=3) rfl ?_);refine a_v ?hg (N:=3) ?hd (cs:=#[.slice A1_0 l1_0.length c1_0]) (t:=26) ?hr ?_;(case hd => rfl);(case hg => rfl);(case hr => first|(go_simp;done)|(go_simp;rfl));intro b_G hg w21 hbox hb;have c_i:=a_a.mk (hbox);have g_A:=a_a.mk ((by rw [hg];exact (a_j (by repeat (first|(with_reducible first|exact HB.out|apply a_d|apply a_b|apply a_e|refine a_c ?_ b_6.out)|exact HB.out))) : w.heap.size ≤ b_G));have e_i:=a_a.mk ((by rw [hg];exact (a_j (by repeat (first|(with_reducible first|exact HB.out|apply a_d|apply a_b|apply a_e|refine a_c ?_ b_6.out)|exact HB.out))) : w.heap.size ≤ b_G));have b_A:=a_a.mk ((by rw [hg];exact Nat.ne_of_lt (a_o (bup_ b_r.out)) : b_F ≠ b_G));have b_B:=a_a.mk ((by rw [hg];exact Nat.ne_of_gt (a_o (bup_ b_r.out)) : b_G ≠ b_F));replace b_r:=a_a.mk (a_f (bup_ b_r.out) hb);replace HB:=a_a.mk (a_i (by repeat (first|(with_reducible first|exact HB.out|apply a_d|apply a_b|apply a_e|refine a_c ?_ b_6.out)|exact HB.out)) hb);clear hb hbox hg;have i_K:=b_A.out;have i_L:=b_B.out;have f_k : w21.cell? ⟨b_F,0,none⟩ = some (.slice A0_0 l0_0.length c0_0):=(a_m b_r.out 0).trans rfl;have f_l:=a_k b_r.out 0;have f_m : w21.cell? ⟨b_G,0,none⟩ = some (.slice A1_0 l1_0.length c1_0):=(a_m c_i.out 0).trans rfl;have f_n:=a_k c_i.out 0)))
  go_ret
  exact ⟨by first|rfl|(simp [a_z,a_y] <;> rfl)|(simp [*, a_z,a_y] <;> rfl),by repeat (first|(with_reducible first|exact HB.out|apply a_d|apply a_b|apply a_e|refine a_c ?_ b_6.out|refine a_c ?_ e_i.out)|exact HB.out)⟩
 rw [if_pos c3] at H
 have c3b0 : ((l0_0.length : Int) == (l1_0.length : Int)) = true:=beq_iff_eq.mpr c3
 have c3b1 : ((l0_0.length : Int) != (l1_0.length : Int)) = false:=bne_eq_false_iff_eq.mpr c3
 have c3b2 : (l0_0.length == l1_0.length) = true:=by first|simpa using c3|(simp at c3 ⊢; omega)
 clear c3
 have H':=a_a.mk H
 clear H
 go_enter Try.func14,Try.ntmps14
 go_wp2_with (first|((with_reducible refine a_w (N:=2) rfl ?_);refine a_v ?hg (N:=2) ?hd (cs:=#[.slice A0_0 l0_0.length c0_0]) (t:=26) ?hr ?_;(case hd => rfl);(case hg => rfl);(case hr => first|(go_simp;done)|(go_simp;rfl));intro b_F hg w4 hbox hb;have b_r:=a_a.mk (hbox);have g_z:=a_a.mk ((by rw [hg];exact (a_j (lup_ HB.out)) : w.heap.size ≤ b_F));have b_6:=a_a.mk ((by rw [hg];exact (a_j (lup_ HB.out)) : w.heap.size ≤ b_F));replace HB:=a_a.mk (a_i (lup_ HB.out) hb);clear hb hbox hg)|((with_reducible refine a_w (N:=3) rfl ?_);refine a_v ?hg (N:=3) ?hd (cs:=#[.slice A1_0 l1_0.length c1_0]) (t:=26) ?hr ?_;(case hd => rfl);(case hg => rfl);(case hr => first|(go_simp;done)|(go_simp;rfl));intro b_G hg w5 hbox hb;have c_i:=a_a.mk (hbox);have g_A:=a_a.mk ((by rw [hg];exact (a_j (by repeat (first|(with_reducible first|exact HB.out|apply a_d|apply a_b|apply a_e|refine a_c ?_ b_6.out)|exact HB.out))) : w.heap.size ≤ b_G));have e_i:=a_a.mk ((by rw [hg];exact (a_j (by repeat (first|(with_reducible first|exact HB.out|apply a_d|apply a_b|apply a_e|refine a_c ?_ b_6.out)|exact HB.out))) : w.heap.size ≤ b_G));have b_A:=a_a.mk ((by rw [hg];exact Nat.ne_of_lt (a_o (bup_ b_r.out)) : b_F ≠ b_G));have b_B:=a_a.mk ((by rw [hg];exact Nat.ne_of_gt (a_o (bup_ b_r.out)) : b_G ≠ b_F));replace b_r:=a_a.mk (a_f (bup_ b_r.out) hb);replace HB:=a_a.mk (a_i (by repeat (first|(with_reducible first|exact HB.out|apply a_d|apply a_b|apply a_e|refine a_c ?_ b_6.out)|exact HB.out)) hb);clear hb hbox hg;have hnb6:=b_A.out;have hnc6:=b_B.out;have c_U : w5.cell? ⟨b_F,0,none⟩ = some (.slice A0_0 l0_0.length c0_0):=(a_m b_r.out 0).trans rfl;have c_V:=a_k b_r.out 0;have d_6 : w5.cell? ⟨b_G,0,none⟩ = some (.slice A1_0 l1_0.length c1_0):=(a_m c_i.out 0).trans rfl;have d_7:=a_k c_i.out 0))
 repeat (go_quiet (first|((with_reducible refine a_w (N:=2) rfl ?_);refine a_v ?hg (N:=2) ?hd (cs:=#[.slice A0_0 l0_0.length c0_0]) (t:=26) ?hr ?_;(case hd => rfl);(case hg => rfl);(case hr => first|(go_simp;done)|(go_simp;rfl));intro b_F hg w4 hbox hb;have b_r:=a_a.mk (hbox);have g_z:=a_a.mk ((by rw [hg];exact (a_j (lup_ HB.out)) : w.heap.size ≤ b_F));have b_6:=a_a.mk ((by rw [hg];exact (a_j (lup_ HB.out)) : w.heap.size ≤ b_F));replace HB:=a_a.mk (a_i (lup_ HB.out) hb);clear hb hbox hg)|((with_reducible refine a_w (N:=3) rfl ?_);refine a_v ?hg (N:=3) ?hd (cs:=#[.slice A1_0 l1_0.length c1_0]) (t:=26) ?hr ?_;(case hd => rfl);(case hg => rfl);(case hr => first|(go_simp;done)|(go_simp;rfl));intro b_G hg w5 hbox hb;have c_i:=a_a.mk (hbox);have g_A:=a_a.mk ((by rw [hg];exact (a_j (by repeat (first|(with_reducible first|exact HB.out|apply a_d|apply a_b|apply a_e|refine a_c ?_ b_6.out)|exact HB.out))) : w.heap.size ≤ b_G));have e_i:=a_a.mk ((by rw [hg];exact (a_j (by repeat (first|(with_reducible first|exact HB.out|apply a_d|apply a_b|apply a_e|refine a_c ?_ b_6.out)|exact HB.out))) : w.heap.size ≤ b_G));have b_A:=a_a.mk ((by rw [hg];exact Nat.ne_of_lt (a_o (bup_ b_r.out)) : b_F ≠ b_G));have b_B:=a_a.mk ((by rw [hg];exact Nat.ne_of_gt (a_o (bup_ b_r.out)) : b_G ≠ b_F));replace b_r:=a_a.mk (a_f (bup_ b_r.out) hb);replace HB:=a_a.mk (a_i (by repeat (first|(with_reducible first|exact HB.out|apply a_d|apply a_b|apply a_e|refine a_c ?_ b_6.out)|exact HB.out)) hb);clear hb hbox hg;have hnb6:=b_A.out;have hnc6:=b_B.out;have c_U : w5.cell? ⟨b_F,0,none⟩ = some (.slice A0_0 l0_0.length c0_0):=(a_m b_r.out 0).trans rfl;have c_V:=a_k b_r.out 0;have d_6 : w5.cell? ⟨b_G,0,none⟩ = some (.slice A1_0 l1_0.length c1_0):=(a_m c_i.out 0).trans rfl;have d_7:=a_k c_i.out 0));try go_wp2_with (first|((with_reducible refine a_w (N:=2) rfl ?_);refine a_v ?hg (N:=2) ?hd (cs:=#[.slice A0_0 l0_0.length c0_0]) (t:=26) ?hr ?_;(case hd => rfl);(case hg => rfl);(case hr => first|(go_simp;done)|(go_simp;rfl));intro b_F hg w4 hbox hb;have b_r:=a_a.mk (hbox);have g_z:=a_a.mk ((by rw [hg];exact (a_j (lup_ HB.out)) : w.heap.size ≤ b_F));have b_6:=a_a.mk ((by rw [hg];exact (a_j (lup_ HB.out)) : w.heap.size ≤ b_F));replace HB:=a_a.mk (a_i (lup_ HB.out) hb);clear hb hbox hg)|((with_reducible refine a_w (N:=3) rfl ?_);refine a_v ?hg (N:=3) ?hd (cs:=#[.slice A1_0 l1_0.length c1_0]) (t:=26) ?hr ?_;(case hd => rfl);(case hg => rfl);(case hr => first|(go_simp;done)|(go_simp;rfl));intro b_G hg w5 hbox hb;have c_i:=a_a.mk (hbox);have g_A:=a_a.mk ((by rw [hg];exact (a_j (by repeat (first|(with_reducible first|exact HB.out|apply a_d|apply a_b|apply a_e|refine a_c ?_ b_6.out)|exact HB.out))) : w.heap.size ≤ b_G));have e_i:=a_a.mk ((by rw [hg];exact (a_j (by repeat (first|(with_reducible first|exact HB.out|apply a_d|apply a_b|apply a_e|refine a_c ?_ b_6.out)|exact HB.out))) : w.heap.size ≤ b_G));have b_A:=a_a.mk ((by rw [hg];exact Nat.ne_of_lt (a_o (bup_ b_r.out)) : b_F ≠ b_G));have b_B:=a_a.mk ((by rw [hg];exact Nat.ne_of_gt (a_o (bup_ b_r.out)) : b_G ≠ b_F));replace b_r:=a_a.mk (a_f (bup_ b_r.out) hb);replace HB:=a_a.mk (a_i (by repeat (first|(with_reducible first|exact HB.out|apply a_d|apply a_b|apply a_e|refine a_c ?_ b_6.out)|exact HB.out)) hb);clear hb hbox hg;have hnb6:=b_A.out;have hnc6:=b_B.out;have c_U : w5.cell? ⟨b_F,0,none⟩ = some (.slice A0_0 l0_0.length c0_0):=(a_m b_r.out 0).trans rfl;have c_V:=a_k b_r.out 0;have d_6 : w5.cell? ⟨b_G,0,none⟩ = some (.slice A1_0 l1_0.length c1_0):=(a_m c_i.out 0).trans rfl;have d_7:=a_k c_i.out 0)))
 go_loopg [16] k (fun kq v16 w' => ∃ (x16_1 : Int),v16 = .int .i64 x16_1 ∧ a_a (a_r.l0 kq (l0_0.length : Int) x16_1 l0_0 l1_0 = some r) ∧ a_a (kq ≤ k) ∧ a_a (w'.heap[b_F]? = some (.cells #[(.slice A0_0 l0_0.length c0_0)] 26 (0,0))) ∧ a_a (w'.heap[b_G]? = some (.cells #[(.slice A1_0 l1_0.length c1_0)] 26 (0,0))) ∧ a_a (Below w.heap.size w w'))
 case atStart => exact ⟨(0),(by first|rfl|(simp;done)|(simp [*];done)),H',⟨Nat.le_refl _⟩,⟨by (with_reducible repeat (first|refine a_n ?_ _|refine a_q ?_|refine a_s ?_ _));exact b_r.out⟩,⟨by (with_reducible repeat (first|refine a_n ?_ _|refine a_q ?_|refine a_s ?_ _));exact c_i.out⟩,⟨by repeat (first|(with_reducible first|exact HB.out|apply a_d|apply a_b|apply a_e|refine a_c ?_ b_6.out|refine a_c ?_ e_i.out)|exact HB.out)⟩⟩
 case round =>
  clear H'
  try clear c1
  try clear p2
  try clear c3
  try clear c3b0
  try clear c3b1
  try clear c3b2
  try clear c6
  try clear c_U
  try clear d_6
  try clear c_V
  try clear d_7
  obtain ⟨x16_1,rfl,HA,HK1,b_r,c_i,HB⟩:=hrel
  cases gk with
  | zero => exact absurd HA.out (by simp [a_r.l0])
  | succ k1 =>
   have H:=HA.out
   clear HA
   simp only [a_r.l0] at H
   by_cases c9 : x16_1 < (l0_0.length : Int)
   rotate_left
   ·rw [if_neg c9] at H
    have c9b0 : decide (x16_1 < (l0_0.length : Int)) = false:=decide_eq_false c9
    clear c9
    obtain rfl:=Option.some.inj H
    go_wp2
    repeat (go_quiet (fail);try go_wp2)
    go_ret
    exact ⟨by first|rfl|(simp [a_z,a_y] <;> rfl)|(simp [*, a_z,a_y] <;> rfl),by repeat (first|(with_reducible first|exact HB.out|apply a_d|apply a_b|apply a_e|refine a_c ?_ b_6.out|refine a_c ?_ e_i.out)|exact HB.out)⟩
   rw [if_pos c9] at H
   have c9b0 : decide (x16_1 < (l0_0.length : Int)) = true:=decide_eq_true c9
   clear c9
   by_cases c10 : 0 ≤ x16_1
   rotate_left
   ·rw [if_neg c10] at H
    exact absurd H (by simp)
   rw [if_pos c10] at H
   have c10b0 : decide (0 ≤ x16_1) = true:=decide_eq_true c10
   clear c10
   by_cases c11 : x16_1 < (l0_0.length : Int)
   rotate_left
   ·rw [if_neg c11] at H
    exact absurd H (by simp)
   rw [if_pos c11] at H
   have c11b0 : decide (x16_1 < (l0_0.length : Int)) = true:=decide_eq_true c11
   clear c11
   by_cases c12 : x16_1 < (l1_0.length : Int)
   rotate_left
   ·rw [if_neg c12] at H
    exact absurd H (by simp)
   rw [if_pos c12] at H
   have c12b0 : decide (x16_1 < (l1_0.length : Int)) = true:=decide_eq_true c12
   clear c12
   by_cases c13 : (rd l0_0 x16_1) = (rd l1_0 x16_1)
   rotate_left
   ·rw [if_neg c13] at H
    have c13b0 : ((rd l0_0 x16_1) == (rd l1_0 x16_1)) = false:=beq_eq_false_iff_ne.mpr c13
    have c13b1 : ((rd l0_0 x16_1) != (rd l1_0 x16_1)) = true:=bne_iff_ne.mpr c13
    obtain rfl:=Option.some.inj H
    have k_y:=b_A.out
    have k_z:=b_B.out
    have j_u : wr.cell? ⟨b_F,0,none⟩ = some (.slice A0_0 l0_0.length c0_0):=(a_m b_r.out 0).trans rfl
    have j_v:=a_k b_r.out 0
    have p259 : 0 ≤ (x16_1 : Int):=of_decide_eq_true (by first|(with_reducible assumption)|assumption)
    have q259 : x16_1 < (l0_0.length : Int):=of_decide_eq_true (by first|(with_reducible assumption)|assumption)
    obtain ⟨ad259,e259,d_c⟩:=Kd.b_z b_U.out x16_1 p259 q259
    cases e259
    replace d_c:=(HB.out.cell (World.block_lt_of_cell? w _ d_c)).trans d_c
    replace p259:=eq_true p259
    replace q259:=eq_true q259
    have f_o : wr.cell? ⟨b_G,0,none⟩ = some (.slice A1_0 l1_0.length c1_0):=(a_m c_i.out 0).trans rfl
    have f_p:=a_k c_i.out 0
    have p260 : 0 ≤ (x16_1 : Int):=of_decide_eq_true (by first|(with_reducible assumption)|assumption)
    have q260 : x16_1 < (l1_0.length : Int):=of_decide_eq_true (by first|(with_reducible assumption)|assumption)
    obtain ⟨ad260,e260,d_d⟩:=Kd.b_z i_J.out x16_1 p260 q260
    cases e260
    replace d_d:=(HB.out.cell (World.block_lt_of_cell? w _ d_d)).trans d_d
    replace p260:=eq_true p260
    replace q260:=eq_true q260
    go_wp2
    repeat (go_quiet (fail);try go_wp2)
    go_ret
    exact ⟨by first|rfl|(simp [a_z,a_y] <;> rfl)|(simp [*, a_z,a_y] <;> rfl),by repeat (first|(with_reducible first|exact HB.out|apply a_d|apply a_b|apply a_e|refine a_c ?_ b_6.out|refine a_c ?_ e_i.out)|exact HB.out)⟩
   rw [if_pos c13] at H
   have c13b0 : ((rd l0_0 x16_1) == (rd l1_0 x16_1)) = true:=beq_iff_eq.mpr c13
   have c13b1 : ((rd l0_0 x16_1) != (rd l1_0 x16_1)) = false:=bne_eq_false_iff_eq.mpr c13
   clear c13
   have H':=a_a.mk H
   clear H
   have k_A:=b_A.out
   have k_B:=b_B.out
   have j_w : wr.cell? ⟨b_F,0,none⟩ = some (.slice A0_0 l0_0.length c0_0):=(a_m b_r.out 0).trans rfl
   have j_x:=a_k b_r.out 0
   have p259 : 0 ≤ (x16_1 : Int):=of_decide_eq_true (by first|(with_reducible assumption)|assumption)
   have q259 : x16_1 < (l0_0.length : Int):=of_decide_eq_true (by first|(with_reducible assumption)|assumption)
   obtain ⟨ad259,e259,d_c⟩:=Kd.b_z b_U.out x16_1 p259 q259
   cases e259
   replace d_c:=(HB.out.cell (World.block_lt_of_cell? w _ d_c)).trans d_c
   replace p259:=eq_true p259
   replace q259:=eq_true q259
   have f_q : wr.cell? ⟨b_G,0,none⟩ = some (.slice A1_0 l1_0.length c1_0):=(a_m c_i.out 0).trans rfl
   have f_r:=a_k c_i.out 0
   have p260 : 0 ≤ (x16_1 : Int):=of_decide_eq_true (by first|(with_reducible assumption)|assumption)
   have q260 : x16_1 < (l1_0.length : Int):=of_decide_eq_true (by first|(with_reducible assumption)|assumption)
   obtain ⟨ad260,e260,d_d⟩:=Kd.b_z i_J.out x16_1 p260 q260
   cases e260
   replace d_d:=(HB.out.cell (World.block_lt_of_cell? w _ d_d)).trans d_d
   replace p260:=eq_true p260
   replace q260:=eq_true q260
   go_wp2
   repeat (go_quiet (fail);try go_wp2)
   go_roundg k1
   case measure => have:=HK1.out;omega
   case rel => exact ⟨(wrap64 (x16_1 + 1)),(by first|rfl|(simp;done)|(simp [*];done)),H',⟨by have:=HK1.out;omega⟩,⟨by (with_reducible repeat (first|refine a_n ?_ _|refine a_q ?_|refine a_s ?_ _));exact b_r.out⟩,⟨by (with_reducible repeat (first|refine a_n ?_ _|refine a_q ?_|refine a_s ?_ _));exact c_i.out⟩,⟨by repeat (first|(with_reducible first|exact HB.out|apply a_d|apply a_b|apply a_e|refine a_c ?_ b_6.out|refine a_c ?_ e_i.out)|exact HB.out)⟩⟩
end Go.Proofs.Ytkhbffjfclepfaa.Q
end
section
namespace Go.Proofs.Ytkhbffjfclepfaa.Q
open Go.RowKit Go.Proofs.YtkhbffjfclepfaaW.PrintWords Go.Proofs.YtkhbffjfclepfaaW.PrintLast Go.Proofs.YtkhbffjfclepfaaW.PrintMore
set_option linter.unusedVariables false
set_option linter.unusedSimpArgs false
def b_e.f (a0 : Int) : Option (Bool):=if a0 ≥ 0 then (some (decide (a0 < 8))) else (some false)
set_option maxHeartbeats 8000000 in
set_option maxRecDepth 100000 in
theorem b_e.calls (a0 : Int) (r : Bool) (w : World) (h : b_e.f a0 = some r) :
 Calls Try.prog 54 #[.int .i64 a0] w fun e w' => e = .returned (.bool r) ∧ a_Y w w':=by
 have H : (if a0 ≥ 0 then (some (decide (a0 < 8))) else (some false)) = some r:=h
 clear h
 by_cases c2 : a0 ≥ 0
 ·rw [if_pos c2] at H
  have c2b0 : decide (0 ≤ a0) = true:=decide_eq_true c2
  clear c2
  obtain rfl:=Option.some.inj H
  go_enter Try.func54,Try.ntmps54
  go_wp2
  go_ret
  exact ⟨by first|rfl|(simp;done)|(simp [*];done),by repeat (first|exact a_Y.refl _|apply a_Y.step)⟩
 rw [if_neg c2] at H
 have c2b0 : decide (0 ≤ a0) = false:=decide_eq_false c2
 clear c2
 obtain rfl:=Option.some.inj H
 go_enter Try.func54,Try.ntmps54
 go_wp2
 go_ret
 exact ⟨by first|rfl|(simp;done)|(simp [*];done),by repeat (first|exact a_Y.refl _|apply a_Y.step)⟩
end Go.Proofs.Ytkhbffjfclepfaa.Q
end
section
namespace Go.Proofs.Ytkhbffjfclepfaa.Q
open Go.RowKit Go.Proofs.YtkhbffjfclepfaaW.PrintWords Go.Proofs.YtkhbffjfclepfaaW.PrintLast Go.Proofs.YtkhbffjfclepfaaW.PrintMore
set_option linter.unusedVariables false
set_option linter.unusedSimpArgs false
def a_1.f (a0 : Int) (a1 : Int) : Option (Bool):=(b_e.f a1).bind fun t173 => (if t173 = true then (if 0 ≤ a1 then (some ((Int.tmod (shr .u32 a0 a1) 2) == 1)) else (none)) else (some false))
set_option maxHeartbeats 8000000 in
set_option maxRecDepth 100000 in
theorem a_1.calls (a0 : Int) (a1 : Int) (r : Bool) (w : World) (h : a_1.f a0 a1 = some r) :
 Calls Try.prog 43 #[.int .u32 a0,.int .i64 a1] w fun e w' => e = .returned (.bool r) ∧ a_Y w w':=by
 have H : ((b_e.f a1).bind fun t173 => (if t173 = true then (if 0 ≤ a1 then (some ((Int.tmod (shr .u32 a0 a1) 2) == 1)) else (none)) else (some false))) = some r:=h
 clear h
 replace H:=Option.bind_eq_some_iff.mp H
 obtain ⟨t173,A30,H⟩:=H
 replace H : (if t173 = true then (if 0 ≤ a1 then (some ((Int.tmod (shr .u32 a0 a1) 2) == 1)) else (none)) else (some false)) = some r:=H
 have A3:=a_a.mk A30
 clear A30
 by_cases c4 : t173 = true
 rotate_left
 ·replace c4:=Bool.eq_false_iff.mpr c4
  subst c4
  have H1 : (some false) = some r:=by rw [if_neg (show ¬ (false = true) by decide)] at H;exact H
  clear H
  have H:=H1
  clear H1
  obtain rfl:=Option.some.inj H
  go_enter Try.func43,Try.ntmps43
  go_wp2_with (first|((with_reducible refine a_B (f:=54) rfl ?_);refine a_X (some 6) rfl rfl Try.func54 (by kernel_rfl) rfl #[.int .i64 a1] rfl (by (try simp only [List.map_toArray,List.map_cons,List.map_nil]);first|done|rfl|(simp only [List.length_drop,List.length_take];rfl)) ?_;(with_reducible refine (b_e.calls a1 false _ A3.out).mono ?_);rintro e w' ⟨rfl,⟨nd,rfl⟩⟩;refine ⟨_,rfl,?_⟩))
  go_ret
  exact ⟨by first|rfl|(simp;done)|(simp [*];done),by repeat (first|exact a_Y.refl _|apply a_Y.step)⟩
 subst c4
 have H1 : (if 0 ≤ a1 then (some ((Int.tmod (shr .u32 a0 a1) 2) == 1)) else (none)) = some r:=by rw [if_pos rfl] at H;exact H
 clear H
 have H:=H1
 clear H1
 by_cases c5 : 0 ≤ a1
 rotate_left
 ·rw [if_neg c5] at H
  exact absurd H (by simp)
 rw [if_pos c5] at H
 have c5b0:=eq_true c5
 have c5b1 : decide (0 ≤ a1) = true:=decide_eq_true c5
 clear c5
 obtain ⟨ji6,hji6⟩ : ∃ j_ : Int,(shr .u32 a0 a1) = j_:=⟨_,rfl⟩
 replace H : (some ((Int.tmod (ji6) 2) == 1)) = some r:=by first|(rw [hji6] at H;exact H)|(simp only [hji6] at H ⊢; exact H)
 (try rw [hji6] at A3)
 have hji6_ : (a0 / 2 ^ min a1.toNat 32) = ji6:=hji6
 have hji6z : a1 ≤ 32 → (a0 / 2 ^ a1.toNat) = ji6:=g_q hji6
 obtain rfl:=Option.some.inj H
 go_enter Try.func43,Try.ntmps43
 go_wp2_with (first|((with_reducible refine a_B (f:=54) rfl ?_);refine a_X (some 6) rfl rfl Try.func54 (by kernel_rfl) rfl #[.int .i64 a1] rfl (by (try simp only [List.map_toArray,List.map_cons,List.map_nil]);first|done|rfl|(simp only [List.length_drop,List.length_take];rfl)) ?_;(with_reducible refine (b_e.calls a1 true _ A3.out).mono ?_);rintro e w' ⟨rfl,⟨nd,rfl⟩⟩;refine ⟨_,rfl,?_⟩))
 go_ret
 exact ⟨by first|rfl|(simp;done)|(simp only [← hji6] <;> (first|rfl|simp))|(simp [*];done),by repeat (first|exact a_Y.refl _|apply a_Y.step)⟩
end Go.Proofs.Ytkhbffjfclepfaa.Q
end
section
namespace Go.Proofs.Ytkhbffjfclepfaa.Q
open Go.RowKit Go.Proofs.YtkhbffjfclepfaaW.PrintWords Go.Proofs.YtkhbffjfclepfaaW.PrintLast Go.Proofs.YtkhbffjfclepfaaW.PrintMore
set_option linter.unusedVariables false
set_option linter.unusedSimpArgs false
def a_u.l0 : Nat → Int → Int → Int → List Int → Int → Int → Option (Int × Bool)
 | 0,_,_,_,_,_,_ => none
 | k + 1,x1,x6,x7,x11,x12,x13 => if x13 < x12 then (if 0 ≤ x13 then (if x13 < (x11.length : Int) then ((a_1.f (rd x11 x13) x1).bind fun t176 => (if t176 = true then (a_u.l0 k x1 x13 (wrap64 (x7 + 1)) x11 x12 (wrap64 (x13 + 1))) else (a_u.l0 k x1 x6 x7 x11 x12 (wrap64 (x13 + 1))))) else (none)) else (none)) else (if x7 = 1 then (some (x6,true)) else (some (0,false)))
def a_u.f (k : Nat) (l0_0 : List Int) (a1 : Int) : Option (Int × Bool):=a_u.l0 k a1 0 0 l0_0 (l0_0.length : Int) 0
theorem a_u.b_x : ∀ k,(∀ y0 y1 y2 y3 y4 y5,LeO (a_u.l0 k y0 y1 y2 y3 y4 y5) (a_u.l0 (k + 1) y0 y1 y2 y3 y4 y5))
 | 0 => fun _ _ _ _ _ _ r h => by simp [a_u.l0] at h
 | k + 1 => by
  have ih0:=a_u.b_x k
  ·intro y0 y1 y2 y3 y4 y5
   unfold a_u.l0
   repeat' first
   | (with_reducible exact ih0 _ _ _ _ _ _)
   | (with_reducible exact LeO.refl _)
   | (with_reducible exact LeO.none _)
   | (with_reducible refine LeO.ite ?_ ?_)
   | (with_reducible refine LeO.bind ?_ (fun _ => ?_))
   | exact ih0 _ _ _ _ _ _
   | exact LeO.none _
   | refine LeO.ite ?_ ?_
   | refine LeO.bind ?_ (fun _ => ?_)
theorem a_u.mono : ∀ a0 a1 k,LeO (a_u.f k a0 a1) (a_u.f (k + 1) a0 a1):=by
 intro a0 a1 k
 have ih0:=a_u.b_x k
 unfold a_u.f
 repeat' first
  | (with_reducible exact ih0 _ _ _ _ _ _)
  | (with_reducible exact LeO.refl _)
  | (with_reducible exact LeO.none _)
  | (with_reducible refine LeO.ite ?_ ?_)
  | (with_reducible refine LeO.bind ?_ (fun _ => ?_))
  | exact ih0 _ _ _ _ _ _
  | exact LeO.none _
  | refine LeO.ite ?_ ?_
  | refine LeO.bind ?_ (fun _ => ?_)
set_option maxHeartbeats 8000000 in
set_option maxRecDepth 100000 in
theorem a_u.calls (k : Nat) (A0_0 : Option Addr) (c0_0 : Nat) (l0_0 : List Int) (a1 : Int) (r1 : Int) (r2 : Bool) (w : World) (hr0_0 : Kd.C (Kd.int .u32) w A0_0 l0_0.length l0_0) (hc0_0 : l0_0.length ≤ c0_0) (h : a_u.f k l0_0 a1 = some (r1,r2)) :
 Calls Try.prog 21 #[.agg #[.slice A0_0 l0_0.length c0_0],.int .i64 a1] w fun e w' => e = .returned (.tuple #[.int .i64 r1,.bool r2]) ∧ Below w.heap.size w w':=by
 have hu26:=Try.underlying26
 have b_U:=a_a.mk hr0_0
 have c_K:=a_a.mk hc0_0
 clear hr0_0 hc0_0
 have HB:=a_a.mk (Below.refl w.heap.size w)
 have H : (a_u.l0 k a1 0 0 l0_0 (l0_0.length : Int) 0) = some (r1,r2):=h
 clear h
 have H':=a_a.mk H
 clear H
 go_enter Try.func21,Try.ntmps21
 go_wp2_with (first|((with_reducible refine a_w (N:=2) rfl ?_);refine a_v ?hg (N:=2) ?hd (cs:=#[.slice A0_0 l0_0.length c0_0]) (t:=26) ?hr ?_;(case hd => rfl);(case hg => rfl);(case hr => first|(go_simp;done)|(go_simp;rfl));intro h_H hg w3 hbox hb;have f_4:=a_a.mk (hbox);have k_C:=a_a.mk ((by rw [hg];exact (a_j (lup_ HB.out)) : w.heap.size ≤ h_H));have g_B:=a_a.mk ((by rw [hg];exact (a_j (lup_ HB.out)) : w.heap.size ≤ h_H));replace HB:=a_a.mk (a_i (lup_ HB.out) hb);clear hb hbox hg;have i_M : w3.cell? ⟨h_H,0,none⟩ = some (.slice A0_0 l0_0.length c0_0):=(a_m f_4.out 0).trans rfl;have i_N:=a_k f_4.out 0))
 go_loopg [6,7,13] k (fun kq v6 v7 v13 w' => ∃ (x6_1 : Int) (x7_1 : Int) (x13_1 : Int),v6 = .int .i64 x6_1 ∧ v7 = .int .i64 x7_1 ∧ v13 = .int .i64 x13_1 ∧ a_a (a_u.l0 kq a1 x6_1 x7_1 l0_0 (l0_0.length : Int) x13_1 = some (r1,r2)) ∧ a_a (kq ≤ k) ∧ a_a (w'.heap[h_H]? = some (.cells #[(.slice A0_0 l0_0.length c0_0)] 26 (0,0))) ∧ a_a (Below w.heap.size w w'))
 case atStart => exact ⟨(0),(0),(0),(by first|rfl|(simp;done)|(simp [*];done)),(by first|rfl|(simp;done)|(simp [*];done)),(by first|rfl|(simp;done)|(simp [*];done)),H',⟨Nat.le_refl _⟩,⟨by (with_reducible repeat (first|refine a_n ?_ _|refine a_q ?_|refine a_s ?_ _));exact f_4.out⟩,⟨by repeat (first|(with_reducible first|exact HB.out|apply a_d|apply a_b|apply a_e|refine a_c ?_ g_B.out)|exact HB.out)⟩⟩
 case round =>
  clear H'
  try clear c2
  try clear p2
  try clear i_M
  try clear i_N
  obtain ⟨x6_1,x7_1,x13_1,rfl,rfl,rfl,HA,HK1,f_4,HB⟩:=hrel
  cases gk with
  | zero => exact absurd HA.out (by simp [a_u.l0])
  | succ k1 =>
   have H:=HA.out
   clear HA
   simp only [a_u.l0] at H
   by_cases c5 : x13_1 < (l0_0.length : Int)
   rotate_left
   ·rw [if_neg c5] at H
    have c5b0 : decide (x13_1 < (l0_0.length : Int)) = false:=decide_eq_false c5
    clear c5
    by_cases c10 : x7_1 = 1
    ·rw [if_pos c10] at H
     have c10b0 : (x7_1 == 1) = true:=beq_iff_eq.mpr c10
     have c10b1 : (x7_1 != 1) = false:=bne_eq_false_iff_eq.mpr c10
     clear c10
     simp only [Option.some.injEq,Prod.mk.injEq] at H
     obtain ⟨rfl,rfl⟩:=H
     go_wp2
     go_ret2
     exact ⟨by first|rfl|(simp [a_z,a_y] <;> rfl)|(simp [*, a_z,a_y] <;> rfl),by repeat (first|(with_reducible first|exact HB.out|apply a_d|apply a_b|apply a_e|refine a_c ?_ g_B.out)|exact HB.out)⟩
    rw [if_neg c10] at H
    have c10b0 : (x7_1 == 1) = false:=beq_eq_false_iff_ne.mpr c10
    have c10b1 : (x7_1 != 1) = true:=bne_iff_ne.mpr c10
    simp only [Option.some.injEq,Prod.mk.injEq] at H
    obtain ⟨rfl,rfl⟩:=H
    go_wp2
    go_ret2
    exact ⟨by first|rfl|(simp [a_z,a_y] <;> rfl)|(simp [*, a_z,a_y] <;> rfl),by repeat (first|(with_reducible first|exact HB.out|apply a_d|apply a_b|apply a_e|refine a_c ?_ g_B.out)|exact HB.out)⟩
   rw [if_pos c5] at H
   have c5b0 : decide (x13_1 < (l0_0.length : Int)) = true:=decide_eq_true c5
   clear c5
   by_cases c6 : 0 ≤ x13_1
   rotate_left
   ·rw [if_neg c6] at H
    exact absurd H (by simp)
   rw [if_pos c6] at H
   have c6b0 : decide (0 ≤ x13_1) = true:=decide_eq_true c6
   clear c6
   by_cases c7 : x13_1 < (l0_0.length : Int)
   rotate_left
   ·rw [if_neg c7] at H
    exact absurd H (by simp)
   rw [if_pos c7] at H
   have c7b0 : decide (x13_1 < (l0_0.length : Int)) = true:=decide_eq_true c7
   clear c7
   replace H:=Option.bind_eq_some_iff.mp H
   obtain ⟨t176,A80,H⟩:=H
   replace H : (if t176 = true then (a_u.l0 k1 a1 x13_1 (wrap64 (x7_1 + 1)) l0_0 (l0_0.length : Int) (wrap64 (x13_1 + 1))) else (a_u.l0 k1 a1 x6_1 x7_1 l0_0 (l0_0.length : Int) (wrap64 (x13_1 + 1)))) = some (r1,r2):=H
   have A8:=a_a.mk A80
   clear A80
   by_cases c9 : t176 = true
   ·subst c9
    have H1 : (a_u.l0 k1 a1 x13_1 (wrap64 (x7_1 + 1)) l0_0 (l0_0.length : Int) (wrap64 (x13_1 + 1))) = some (r1,r2):=by rw [if_pos rfl] at H;exact H
    clear H
    have H:=H1
    clear H1
    have H':=a_a.mk H
    clear H
    have p175 : 0 ≤ (x13_1 : Int):=of_decide_eq_true (by first|(with_reducible assumption)|assumption)
    have q175 : x13_1 < (l0_0.length : Int):=of_decide_eq_true (by first|(with_reducible assumption)|assumption)
    obtain ⟨ad175,e175,d_e⟩:=Kd.b_z b_U.out x13_1 p175 q175
    cases e175
    replace d_e:=(HB.out.cell (World.block_lt_of_cell? w _ d_e)).trans d_e
    replace p175:=eq_true p175
    replace q175:=eq_true q175
    go_wp2_with (first|((with_reducible refine a_B (f:=43) rfl ?_);refine a_X (some 20) rfl rfl Try.func43 (by kernel_rfl) rfl #[.int .u32 (rd l0_0 x13_1),.int .i64 a1] rfl (by (try simp only [List.map_toArray,List.map_cons,List.map_nil]);first|done|rfl|(simp only [List.length_drop,List.length_take];rfl)) ?_;(with_reducible refine (a_1.calls (rd l0_0 x13_1) a1 true _ A8.out).mono ?_);rintro e w' ⟨rfl,⟨nd,rfl⟩⟩;refine ⟨_,rfl,?_⟩))
    go_roundg k1
    case measure => have:=HK1.out;omega
    case rel => exact ⟨(x13_1),(wrap64 (x7_1 + 1)),(wrap64 (x13_1 + 1)),(by first|rfl|(simp;done)|(simp [*];done)),(by first|rfl|(simp;done)|(simp [*];done)),(by first|rfl|(simp;done)|(simp [*];done)),H',⟨by have:=HK1.out;omega⟩,⟨by (with_reducible repeat (first|refine a_n ?_ _|refine a_q ?_|refine a_s ?_ _));exact f_4.out⟩,⟨by repeat (first|(with_reducible first|exact HB.out|apply a_d|apply a_b|apply a_e|refine a_c ?_ g_B.out)|exact HB.out)⟩⟩
   replace c9:=Bool.eq_false_iff.mpr c9
   subst c9
   have H1 : (a_u.l0 k1 a1 x6_1 x7_1 l0_0 (l0_0.length : Int) (wrap64 (x13_1 + 1))) = some (r1,r2):=by rw [if_neg (show ¬ (false = true) by decide)] at H;exact H
   clear H
   have H:=H1
   clear H1
   have H':=a_a.mk H
   clear H
   have p175 : 0 ≤ (x13_1 : Int):=of_decide_eq_true (by first|(with_reducible assumption)|assumption)
   have q175 : x13_1 < (l0_0.length : Int):=of_decide_eq_true (by first|(with_reducible assumption)|assumption)
   obtain ⟨ad175,e175,d_e⟩:=Kd.b_z b_U.out x13_1 p175 q175
   cases e175
   replace d_e:=(HB.out.cell (World.block_lt_of_cell? w _ d_e)).trans d_e
   replace p175:=eq_true p175
   replace q175:=eq_true q175
   go_wp2_with (first|((with_reducible refine a_B (f:=43) rfl ?_);refine a_X (some 20) rfl rfl Try.func43 (by kernel_rfl) rfl #[.int .u32 (rd l0_0 x13_1),.int .i64 a1] rfl (by (try simp only [List.map_toArray,List.map_cons,List.map_nil]);first|done|rfl|(simp only [List.length_drop,List.length_take];rfl)) ?_;(with_reducible refine (a_1.calls (rd l0_0 x13_1) a1 false _ A8.out).mono ?_);rintro e w' ⟨rfl,⟨nd,rfl⟩⟩;refine ⟨_,rfl,?_⟩))
   go_roundg k1
   case measure => have:=HK1.out;omega
   case rel => exact ⟨(x6_1),(x7_1),(wrap64 (x13_1 + 1)),(by first|rfl|(simp;done)|(simp [*];done)),(by first|rfl|(simp;done)|(simp [*];done)),(by first|rfl|(simp;done)|(simp [*];done)),H',⟨by have:=HK1.out;omega⟩,⟨by (with_reducible repeat (first|refine a_n ?_ _|refine a_q ?_|refine a_s ?_ _));exact f_4.out⟩,⟨by repeat (first|(with_reducible first|exact HB.out|apply a_d|apply a_b|apply a_e|refine a_c ?_ g_B.out)|exact HB.out)⟩⟩
end Go.Proofs.Ytkhbffjfclepfaa.Q
end
section
namespace Go.Proofs.Ytkhbffjfclepfaa.Q
open Go.RowKit Go.Proofs.YtkhbffjfclepfaaW.PrintWords Go.Proofs.YtkhbffjfclepfaaW.PrintLast Go.Proofs.YtkhbffjfclepfaaW.PrintMore
set_option linter.unusedVariables false
set_option linter.unusedSimpArgs false
def a_4.f (a0 : Int) : Option (Bool):=some (decide (a0 < 256))
set_option maxHeartbeats 8000000 in
set_option maxRecDepth 100000 in
theorem a_4.calls (a0 : Int) (r : Bool) (w : World) (h : a_4.f a0 = some r) :
 Calls Try.prog 36 #[.int .u32 a0] w fun e w' => e = .returned (.bool r) ∧ a_Y w w':=by
 have H : (some (decide (a0 < 256))) = some r:=h
 clear h
 obtain rfl:=Option.some.inj H
 go_enter Try.func36,Try.ntmps36
 go_wp2
 go_ret
 exact ⟨by first|rfl|(simp;done)|(simp [*];done),by repeat (first|exact a_Y.refl _|apply a_Y.step)⟩
end Go.Proofs.Ytkhbffjfclepfaa.Q
end
section
namespace Go.Proofs.Ytkhbffjfclepfaa.Q
open Go.RowKit Go.Proofs.YtkhbffjfclepfaaW.PrintWords Go.Proofs.YtkhbffjfclepfaaW.PrintLast Go.Proofs.YtkhbffjfclepfaaW.PrintMore
set_option linter.unusedVariables false
set_option linter.unusedSimpArgs false
def a_p.l0 : Nat → Int → List Int → Int → Option (List Int)
 | 0,_,_,_ => none
 | k + 1,x0,x3,x5 => if x5 < 8 then ((a_1.f x0 x5).bind fun t177 => (if t177 = true then (if x3.length < 17592186044416 then (a_p.l0 k x0 (x3 ++ [x5]) (wrap64 (x5 + 1))) else (none)) else (a_p.l0 k x0 x3 (wrap64 (x5 + 1))))) else (some x3)
def a_p.f (k : Nat) (a0 : Int) : Option (List Int):=a_p.l0 k a0 ([] : List Int) 0
theorem a_p.b_x : ∀ k,(∀ y0 y1 y2,LeO (a_p.l0 k y0 y1 y2) (a_p.l0 (k + 1) y0 y1 y2))
 | 0 => fun _ _ _ r h => by simp [a_p.l0] at h
 | k + 1 => by
  have ih0:=a_p.b_x k
  ·intro y0 y1 y2
   unfold a_p.l0
   repeat' first
   | (with_reducible exact ih0 _ _ _)
   | (with_reducible exact LeO.refl _)
   | (with_reducible exact LeO.none _)
   | (with_reducible refine LeO.ite ?_ ?_)
   | (with_reducible refine LeO.bind ?_ (fun _ => ?_))
   | exact ih0 _ _ _
   | exact LeO.none _
   | refine LeO.ite ?_ ?_
   | refine LeO.bind ?_ (fun _ => ?_)
theorem a_p.mono : ∀ a0 k,LeO (a_p.f k a0) (a_p.f (k + 1) a0):=by
 intro a0 k
 have ih0:=a_p.b_x k
 unfold a_p.f
 repeat' first
  | (with_reducible exact ih0 _ _ _)
  | (with_reducible exact LeO.refl _)
  | (with_reducible exact LeO.none _)
  | (with_reducible refine LeO.ite ?_ ?_)
  | (with_reducible refine LeO.bind ?_ (fun _ => ?_))
  | exact ih0 _ _ _
  | exact LeO.none _
  | refine LeO.ite ?_ ?_
  | refine LeO.bind ?_ (fun _ => ?_)
set_option maxHeartbeats 8000000 in
set_option maxRecDepth 100000 in
theorem a_p.calls (k : Nat) (a0 : Int) (r : List Int) (w : World) (h : a_p.f k a0 = some r) :
 Calls Try.prog 37 #[.int .u32 a0] w fun e w' => ∃ v0_ : Value,e = .returned (v0_) ∧ Kd.R (Kd.int .i64) 3 w' w.heap.size (fun _ => True) v0_ r ∧ Below w.heap.size w w':=by
 have HB:=a_a.mk (Below.refl w.heap.size w)
 have H : (a_p.l0 k a0 ([] : List Int) 0) = some r:=h
 clear h
 have H':=a_a.mk H
 clear H
 go_enter Try.func37,Try.ntmps37
 go_wp2
 go_loopg [3,5] k (fun kq v3 v5 w' => ∃ (x3_1 : List Int) (x5_1 : Int),v5 = .int .i64 x5_1 ∧ a_a (a_p.l0 kq a0 x3_1 x5_1 = some r) ∧ a_a (kq ≤ k) ∧ a_a (Kd.R (Kd.int .i64) 3 w' w.heap.size (fun _ => True) v3 x3_1) ∧ a_a (Below w.heap.size w w'))
 case atStart => exact ⟨(([] : List Int)),(0),(by first|rfl|(simp;done)|(simp [*];done)),H',⟨Nat.le_refl _⟩,⟨by first|exact Kd.c_z _ _ _ _ _|exact Kd.d_M _ _ _ _ _|exact Kd.d_I _ _ _ _ _|exact Kd.d_K _ _ _ _ _|exact Kd.d_L _ _ _ _ _⟩,⟨by repeat (first|(with_reducible first|exact HB.out|apply a_d|apply a_b|apply a_e)|exact HB.out)⟩⟩
 case round =>
  clear H'
  obtain ⟨x3_1,x5_1,rfl,HA,HK1,HO_3,HB⟩:=hrel
  cases gk with
  | zero => exact absurd HA.out (by simp [a_p.l0])
  | succ k1 =>
   have H:=HA.out
   clear HA
   simp only [a_p.l0] at H
   by_cases c2 : x5_1 < 8
   rotate_left
   ·rw [if_neg c2] at H
    have c2b0 : decide (x5_1 < 8) = false:=decide_eq_false c2
    clear c2
    obtain rfl:=Option.some.inj H
    go_wp2
    go_ret
    exact ⟨_,by first|rfl|(simp [a_z,a_y] <;> rfl)|(simp [*, a_z,a_y] <;> rfl),by (with_reducible repeat (first|apply Kd.a_J|apply Kd.a_I|apply Kd.a_M));exact HO_3.out,by repeat (first|(with_reducible first|exact HB.out|apply a_d|apply a_b|apply a_e)|exact HB.out)⟩
   rw [if_pos c2] at H
   have c2b0 : decide (x5_1 < 8) = true:=decide_eq_true c2
   clear c2
   replace H:=Option.bind_eq_some_iff.mp H
   obtain ⟨t177,A30,H⟩:=H
   replace H : (if t177 = true then (if x3_1.length < 17592186044416 then (a_p.l0 k1 a0 (x3_1 ++ [x5_1]) (wrap64 (x5_1 + 1))) else (none)) else (a_p.l0 k1 a0 x3_1 (wrap64 (x5_1 + 1)))) = some r:=H
   have A3:=a_a.mk A30
   clear A30
   by_cases c4 : t177 = true
   rotate_left
   ·replace c4:=Bool.eq_false_iff.mpr c4
    subst c4
    have H1 : (a_p.l0 k1 a0 x3_1 (wrap64 (x5_1 + 1))) = some r:=by rw [if_neg (show ¬ (false = true) by decide)] at H;exact H
    clear H
    have H:=H1
    clear H1
    have H':=a_a.mk H
    clear H
    go_wp2_with (first|((with_reducible refine a_B (f:=43) rfl ?_);refine a_X (some 10) rfl rfl Try.func43 (by kernel_rfl) rfl #[.int .u32 a0,.int .i64 x5_1] rfl (by (try simp only [List.map_toArray,List.map_cons,List.map_nil]);first|done|rfl|(simp only [List.length_drop,List.length_take];rfl)) ?_;(with_reducible refine (a_1.calls a0 x5_1 false _ A3.out).mono ?_);rintro e w' ⟨rfl,⟨nd,rfl⟩⟩;refine ⟨_,rfl,?_⟩))
    go_roundg k1
    case measure => have:=HK1.out;omega
    case rel => exact ⟨(x3_1),(wrap64 (x5_1 + 1)),(by first|rfl|(simp;done)|(simp [*];done)),H',⟨by have:=HK1.out;omega⟩,⟨by (with_reducible repeat (first|apply Kd.a_J|apply Kd.a_I|apply Kd.a_M));exact HO_3.out⟩,⟨by repeat (first|(with_reducible first|exact HB.out|apply a_d|apply a_b|apply a_e)|exact HB.out)⟩⟩
   subst c4
   have H1 : (if x3_1.length < 17592186044416 then (a_p.l0 k1 a0 (x3_1 ++ [x5_1]) (wrap64 (x5_1 + 1))) else (none)) = some r:=by rw [if_pos rfl] at H;exact H
   clear H
   have H:=H1
   clear H1
   by_cases c5 : x3_1.length < 17592186044416
   rotate_left
   ·rw [if_neg c5] at H
    exact absurd H (by simp)
   rw [if_pos c5] at H
   have LMc5:=a_a.mk c5
   clear c5
   obtain ⟨y178,hy178⟩ : ∃ y_ : List Int,y_ = (x3_1 ++ [x5_1]):=⟨_,rfl⟩
   replace H : (a_p.l0 k1 a0 y178 (wrap64 (x5_1 + 1))) = some r:=by first|(rw [hy178];with_reducible exact H)|(have H2_:=(Option.bind_some _ _).symm.trans H;rw [hy178];with_reducible exact H2_)|(have H2_:=(Option.bind_some _ _).symm.trans H;with_reducible exact H2_)|with_reducible exact H|(rw [hy178];exact H)|exact H
   have Ny178:=a_a.mk hy178
   clear hy178
   have H':=a_a.mk H
   clear H
   go_wp2_with (first|((with_reducible refine a_B (f:=43) rfl ?_);refine a_X (some 10) rfl rfl Try.func43 (by kernel_rfl) rfl #[.int .u32 a0,.int .i64 x5_1] rfl (by (try simp only [List.map_toArray,List.map_cons,List.map_nil]);first|done|rfl|(simp only [List.length_drop,List.length_take];rfl)) ?_;(with_reducible refine (a_1.calls a0 x5_1 true _ A3.out).mono ?_);rintro e w' ⟨rfl,⟨nd,rfl⟩⟩;refine ⟨_,rfl,?_⟩)|((with_reducible refine b_a (b:=.append) (xs:=#[.tmp 11,.tmp 13]) rfl ?_);at_builtin;refine Kd.d_p (Kd.int .i64) (w0:=w) w.heap.size rfl (.tmp 11) (.tmp 13) 22 3 (.int .i64 0) 8 rfl Try.underlying22 info3 rfl (by decide) (by omega) u3 x3_1 x5_1 [.int .i64 x5_1] (fun _ => True) (fun _ => False) rfl rfl ?aP (fun _ hk => hk.elim) ?aF ?aO ?aB ?aS ?aL ?_;(case aP => exact rfl);(case aB => exact (lup_ HB.out));(case aF => exact (fun _ _ => trivial));(case aO => exact (rup_ HO_3.out));(case aS => exact (a_j (lup_ HB.out)));(case aL => have:=LMc5.out;omega);intro v179 w6 ho hb hg hat;rw [← Ny178.out] at ho;have j_y:=a_a.mk (ho);replace HB:=a_a.mk (hb);clear HO_3 ho hb hg hat))
   go_roundg k1
   case measure => have:=HK1.out;omega
   case rel => exact ⟨(y178),(wrap64 (x5_1 + 1)),(by first|rfl|(simp;done)|(simp [*];done)),H',⟨by have:=HK1.out;omega⟩,⟨by (with_reducible repeat (first|apply Kd.a_J|apply Kd.a_I|apply Kd.a_M));exact j_y.out⟩,⟨by repeat (first|(with_reducible first|exact HB.out|apply a_d|apply a_b|apply a_e)|exact HB.out)⟩⟩
end Go.Proofs.Ytkhbffjfclepfaa.Q
end
section
namespace Go.Proofs.Ytkhbffjfclepfaa.Q
open Go.RowKit Go.Proofs.YtkhbffjfclepfaaW.PrintWords Go.Proofs.YtkhbffjfclepfaaW.PrintLast Go.Proofs.YtkhbffjfclepfaaW.PrintMore
set_option linter.unusedVariables false
set_option linter.unusedSimpArgs false
mutual
def a_h.j0 : Nat → Bool → List Int → Option (Bool)
 | 0,_,_ => none
 | k + 1,x18,x182000 => if x18 = true then (some false) else (a_h.l0 k 0 x182000 (x182000.length : Int) 0 x182000)
def a_h.l0 : Nat → Int → List Int → Int → Int → List Int → Option (Bool)
 | 0,_,_,_,_,_ => none
 | k + 1,x3,x20,x21,x22,x182000 => if x22 < x21 then (if 0 ≤ x22 then (if x22 < (x20.length : Int) then ((a_4.f (rd x20 x22)).bind fun t183 => (if t183 = true then (if (rd x20 x22) = 0 then (some false) else ((a_p.f k (rd x20 x22)).bind fun t184 => (a_h.l0 k (wrap64 (x3 + (t184.length : Int))) x20 x21 (wrap64 (x22 + 1)) x182000))) else (some false))) else (none)) else (none)) else (a_h.l1 k x3 0 x182000)
def a_h.l1 : Nat → Int → Int → List Int → Option (Bool)
 | 0,_,_,_ => none
 | k + 1,x39,x40,x182000 => if x40 < x39 then ((a_u.f k x182000 x40).bind fun bt187 => (if bt187.2 = true then (a_h.l1 k x39 (wrap64 (x40 + 1)) x182000) else (some false))) else (some true)
end
def a_h.f (k : Nat) (l0_0 : List Int) : Option (Bool):=if (l0_0.length : Int) < 1 then (a_h.j0 k true l0_0) else (a_h.j0 k (decide ((l0_0.length : Int) > 4)) l0_0)
theorem a_h.b_x : ∀ k,(∀ y0 y1,LeO (a_h.j0 k y0 y1) (a_h.j0 (k + 1) y0 y1)) ∧ (∀ y0 y1 y2 y3 y4,LeO (a_h.l0 k y0 y1 y2 y3 y4) (a_h.l0 (k + 1) y0 y1 y2 y3 y4)) ∧ (∀ y0 y1 y2,LeO (a_h.l1 k y0 y1 y2) (a_h.l1 (k + 1) y0 y1 y2))
 | 0 => ⟨fun _ _ r h => by simp [a_h.j0] at h,fun _ _ _ _ _ r h => by simp [a_h.l0] at h,fun _ _ _ r h => by simp [a_h.l1] at h⟩
 | k + 1 => by
  obtain ⟨ih0,ih1,ih2⟩:=a_h.b_x k
  refine ⟨?_,?_,?_⟩
  ·intro y0 y1
   unfold a_h.j0
   repeat' first
   | (with_reducible exact ih0 _ _)
   | (with_reducible exact ih1 _ _ _ _ _)
   | (with_reducible exact ih2 _ _ _)
   | (with_reducible exact a_p.mono _ _)
   | (with_reducible exact a_u.mono _ _ _)
   | (with_reducible exact LeO.refl _)
   | (with_reducible exact LeO.none _)
   | (with_reducible refine LeO.ite ?_ ?_)
   | (with_reducible refine LeO.bind ?_ (fun _ => ?_))
   | exact ih0 _ _
   | exact ih1 _ _ _ _ _
   | exact ih2 _ _ _
   | exact a_p.mono _ _
   | exact a_u.mono _ _ _
   | exact LeO.none _
   | refine LeO.ite ?_ ?_
   | refine LeO.bind ?_ (fun _ => ?_)
  ·intro y0 y1 y2 y3 y4
   unfold a_h.l0
   repeat' first
   | (with_reducible exact ih0 _ _)
   | (with_reducible exact ih1 _ _ _ _ _)
   | (with_reducible exact ih2 _ _ _)
   | (with_reducible exact a_p.mono _ _)
   | (with_reducible exact a_u.mono _ _ _)
   | (with_reducible exact LeO.refl _)
   | (with_reducible exact LeO.none _)
   | (with_reducible refine LeO.ite ?_ ?_)
   | (with_reducible refine LeO.bind ?_ (fun _ => ?_))
   | exact ih0 _ _
   | exact ih1 _ _ _ _ _
   | exact ih2 _ _ _
   | exact a_p.mono _ _
   | exact a_u.mono _ _ _
   | exact LeO.none _
   | refine LeO.ite ?_ ?_
   | refine LeO.bind ?_ (fun _ => ?_)
  ·intro y0 y1 y2
   unfold a_h.l1
   repeat' first
   | (with_reducible exact ih0 _ _)
   | (with_reducible exact ih1 _ _ _ _ _)
   | (with_reducible exact ih2 _ _ _)
   | (with_reducible exact a_p.mono _ _)
   | (with_reducible exact a_u.mono _ _ _)
   | (with_reducible exact LeO.refl _)
   | (with_reducible exact LeO.none _)
   | (with_reducible refine LeO.ite ?_ ?_)
   | (with_reducible refine LeO.bind ?_ (fun _ => ?_))
   | exact ih0 _ _
   | exact ih1 _ _ _ _ _
   | exact ih2 _ _ _
   | exact a_p.mono _ _
   | exact a_u.mono _ _ _
   | exact LeO.none _
   | refine LeO.ite ?_ ?_
   | refine LeO.bind ?_ (fun _ => ?_)
theorem a_h.mono : ∀ a0 k,LeO (a_h.f k a0) (a_h.f (k + 1) a0):=by
 intro a0 k
 obtain ⟨ih0,ih1,ih2⟩:=a_h.b_x k
 unfold a_h.f
 repeat' first
  | (with_reducible exact ih0 _ _)
  | (with_reducible exact ih1 _ _ _ _ _)
  | (with_reducible exact ih2 _ _ _)
  | (with_reducible exact a_p.mono _ _)
  | (with_reducible exact a_u.mono _ _ _)
  | (with_reducible exact LeO.refl _)
  | (with_reducible exact LeO.none _)
  | (with_reducible refine LeO.ite ?_ ?_)
  | (with_reducible refine LeO.bind ?_ (fun _ => ?_))
  | exact ih0 _ _
  | exact ih1 _ _ _ _ _
  | exact ih2 _ _ _
  | exact a_p.mono _ _
  | exact a_u.mono _ _ _
  | exact LeO.none _
  | refine LeO.ite ?_ ?_
  | refine LeO.bind ?_ (fun _ => ?_)
set_option maxHeartbeats 8000000 in
set_option maxRecDepth 100000 in
theorem a_h.calls (k : Nat) (A0_0 : Option Addr) (c0_0 : Nat) (l0_0 : List Int) (r : Bool) (w : World) (hr0_0 : Kd.C (Kd.int .u32) w A0_0 l0_0.length l0_0) (hc0_0 : l0_0.length ≤ c0_0) (h : a_h.f k l0_0 = some r) :
 Calls Try.prog 16 #[.agg #[.slice A0_0 l0_0.length c0_0]] w fun e w' => e = .returned (.bool r) ∧ Below w.heap.size w w':=by
 have hu26:=Try.underlying26
 have b_U:=a_a.mk hr0_0
 have c_K:=a_a.mk hc0_0
 clear hr0_0 hc0_0
 have HB:=a_a.mk (Below.refl w.heap.size w)
 have H : (if (l0_0.length : Int) < 1 then (a_h.j0 k true l0_0) else (a_h.j0 k (decide ((l0_0.length : Int) > 4)) l0_0)) = some r:=h
 clear h
 have HC2:=a_a.mk H
 clear H
 go_enter Try.func16,Try.ntmps16
 go_upto_region 1 with (first|((with_reducible refine a_w (N:=1) rfl ?_);(try (refine a_H (by rfl) ?_;dsimp only));refine a_v ?hg (N:=1) ?hd (cs:=#[.slice A0_0 l0_0.length c0_0]) (t:=26) ?hr ?_;(case hd => rfl);(case hg => rfl);(case hr => first|(go_simp;done)|(go_simp;rfl));intro e_j hg w3 hbox hb;have c_c:=a_a.mk (hbox);have k_D:=a_a.mk ((by rw [hg];exact (a_j (lup_ HB.out)) : w.heap.size ≤ e_j));have d_f:=a_a.mk ((by rw [hg];exact (a_j (lup_ HB.out)) : w.heap.size ≤ e_j));replace HB:=a_a.mk (a_i (lup_ HB.out) hb);clear hb hbox hg))
 (try simp only [Act.put,List.setIfInBounds_toArray,List.set_cons_zero,List.set_cons_succ])
 go_cut [18] (fun v18 wc => ∃ (kq : Nat) (x18_1 : Bool),v18 = .bool x18_1 ∧ a_a (a_h.j0 kq x18_1 l0_0 = some r) ∧ a_a (kq ≤ k) ∧ a_a (wc.heap[e_j]? = some (.cells #[(.slice A0_0 l0_0.length c0_0)] 26 (0,0))) ∧ a_a (Below w.heap.size w wc))
 case first =>
  have H:=HC2.out
  clear HC2
  by_cases c4 : (l0_0.length : Int) < 1
  ·rw [if_pos c4] at H
   have c4b0 : decide ((l0_0.length : Int) < 1) = true:=decide_eq_true c4
   have c4b1 : decide (l0_0.length < 1) = true:=decide_eq_true (by omega)
   clear c4
   (first|rw [c4b0]|(simp only [e_f,e_e];rw [c4b0])|skip)
   have H':=a_a.mk H
   clear H
   have d_G : w3.cell? ⟨e_j,0,none⟩ = some (.slice A0_0 l0_0.length c0_0):=(a_m c_c.out 0).trans rfl
   have d_H:=a_k c_c.out 0
   go_wp2
   go_meet
   case rel => exact ⟨_,(true),(by first|rfl|(simp;done)|(simp [*];done)),H',⟨by first|omega|exact Nat.le_refl _⟩,⟨by (with_reducible repeat (first|refine a_n ?_ _|refine a_q ?_|refine a_s ?_ _));exact c_c.out⟩,⟨by repeat (first|(with_reducible first|exact HB.out|apply a_d|apply a_b|apply a_e|refine a_c ?_ d_f.out)|exact HB.out)⟩⟩
  rw [if_neg c4] at H
  have c4b0 : decide ((l0_0.length : Int) < 1) = false:=decide_eq_false c4
  have c4b1 : decide (l0_0.length < 1) = false:=decide_eq_false (by omega)
  clear c4
  (first|rw [c4b0]|(simp only [e_f,e_e];rw [c4b0])|skip)
  have H':=a_a.mk H
  clear H
  have d_t : w3.cell? ⟨e_j,0,none⟩ = some (.slice A0_0 l0_0.length c0_0):=(a_m c_c.out 0).trans rfl
  have d_u:=a_k c_c.out 0
  go_wp2
  go_meet
  case rel => exact ⟨_,(decide ((l0_0.length : Int) > 4)),(by first|rfl|(simp;done)|(simp [*];done)),H',⟨by first|omega|exact Nat.le_refl _⟩,⟨by (with_reducible repeat (first|refine a_n ?_ _|refine a_q ?_|refine a_s ?_ _));exact c_c.out⟩,⟨by repeat (first|(with_reducible first|exact HB.out|apply a_d|apply a_b|apply a_e|refine a_c ?_ d_f.out)|exact HB.out)⟩⟩
 case rest =>
  clear HC2
  try clear c1
  try clear p2
  try clear c4
  try clear c4b0
  try clear c4b1
  try clear d_G
  try clear d_t
  try clear d_H
  try clear d_u
  obtain ⟨kq,x18_1,rfl,HA,HJ1,c_c,HB⟩:=hcut
  cases kq with
  | zero => exact absurd HA.out (by simp [a_h.j0])
  | succ kj1 =>
   have H:=HA.out
   clear HA
   simp only [a_h.j0] at H
   by_cases c7 : x18_1 = true
   ·subst c7
    have H1 : (some false) = some r:=by rw [if_pos rfl] at H;exact H
    clear H
    have H:=H1
    clear H1
    obtain rfl:=Option.some.inj H
    go_wp2
    go_ret
    exact ⟨by first|rfl|(simp [a_z,a_y] <;> rfl)|(simp [*, a_z,a_y] <;> rfl),by repeat (first|(with_reducible first|exact HB.out|apply a_d|apply a_b|apply a_e|refine a_c ?_ d_f.out)|exact HB.out)⟩
   replace c7:=Bool.eq_false_iff.mpr c7
   subst c7
   have H1 : (a_h.l0 kj1 0 l0_0 (l0_0.length : Int) 0 l0_0) = some r:=by rw [if_neg (show ¬ (false = true) by decide)] at H;exact H
   clear H
   have H:=H1
   clear H1
   have H':=a_a.mk H
   clear H
   have d_6 : wc.cell? ⟨e_j,0,none⟩ = some (.slice A0_0 l0_0.length c0_0):=(a_m c_c.out 0).trans rfl
   have d_7:=a_k c_c.out 0
   go_wp2
   go_loopg [3,22] kj1 (fun kq v3 v22 w' => ∃ (x3_2 : Int) (x22_2 : Int),v3 = .int .i64 x3_2 ∧ v22 = .int .i64 x22_2 ∧ a_a (a_h.l0 kq x3_2 l0_0 (l0_0.length : Int) x22_2 l0_0 = some r) ∧ a_a (kq ≤ kj1) ∧ a_a (w'.heap[e_j]? = some (.cells #[(.slice A0_0 l0_0.length c0_0)] 26 (0,0))) ∧ a_a (Below w.heap.size w w'))
   case atStart => exact ⟨(0),(0),(by first|rfl|(simp;done)|(simp [*];done)),(by first|rfl|(simp;done)|(simp [*];done)),H',⟨Nat.le_refl _⟩,⟨by (with_reducible repeat (first|refine a_n ?_ _|refine a_q ?_|refine a_s ?_ _));exact c_c.out⟩,⟨by repeat (first|(with_reducible first|exact HB.out|apply a_d|apply a_b|apply a_e|refine a_c ?_ d_f.out)|exact HB.out)⟩⟩
   case round =>
    clear H'
    try clear c1
    try clear p2
    try clear c4
    try clear c4b0
    try clear c4b1
    try clear c7
    try clear d_G
    try clear d_t
    try clear d_6
    try clear d_H
    try clear d_u
    try clear d_7
    try clear p2
    obtain ⟨x3_2,x22_2,rfl,rfl,HA,HK2,c_c,HB⟩:=hrel
    cases gk with
    | zero => exact absurd HA.out (by simp [a_h.l0])
    | succ k2 =>
     have H:=HA.out
     clear HA
     simp only [a_h.l0] at H
     by_cases c9 : x22_2 < (l0_0.length : Int)
     ·rw [if_pos c9] at H
      have c9b0 : decide (x22_2 < (l0_0.length : Int)) = true:=decide_eq_true c9
      clear c9
      by_cases c10 : 0 ≤ x22_2
      rotate_left
      ·rw [if_neg c10] at H
       exact absurd H (by simp)
      rw [if_pos c10] at H
      have c10b0 : decide (0 ≤ x22_2) = true:=decide_eq_true c10
      clear c10
      by_cases c11 : x22_2 < (l0_0.length : Int)
      rotate_left
      ·rw [if_neg c11] at H
       exact absurd H (by simp)
      rw [if_pos c11] at H
      have c11b0 : decide (x22_2 < (l0_0.length : Int)) = true:=decide_eq_true c11
      clear c11
      replace H:=Option.bind_eq_some_iff.mp H
      obtain ⟨t183,A120,H⟩:=H
      replace H : (if t183 = true then (if (rd l0_0 x22_2) = 0 then (some false) else ((a_p.f k2 (rd l0_0 x22_2)).bind fun t184 => (a_h.l0 k2 (wrap64 (x3_2 + (t184.length : Int))) l0_0 (l0_0.length : Int) (wrap64 (x22_2 + 1)) l0_0))) else (some false)) = some r:=H
      have A12:=a_a.mk A120
      clear A120
      by_cases c13 : t183 = true
      rotate_left
      ·replace c13:=Bool.eq_false_iff.mpr c13
       subst c13
       have H1 : (some false) = some r:=by rw [if_neg (show ¬ (false = true) by decide)] at H;exact H
       clear H
       have H:=H1
       clear H1
       obtain rfl:=Option.some.inj H
       have p182 : 0 ≤ (x22_2 : Int):=of_decide_eq_true (by first|(with_reducible assumption)|assumption)
       have q182 : x22_2 < (l0_0.length : Int):=of_decide_eq_true (by first|(with_reducible assumption)|assumption)
       obtain ⟨ad182,e182,c_d⟩:=Kd.b_z b_U.out x22_2 p182 q182
       cases e182
       replace c_d:=(HB.out.cell (World.block_lt_of_cell? w _ c_d)).trans c_d
       replace p182:=eq_true p182
       replace q182:=eq_true q182
       go_wp2_with (first|((with_reducible refine a_B (f:=36) rfl ?_);refine a_X (some 27) rfl rfl Try.func36 (by kernel_rfl) rfl #[.int .u32 (rd l0_0 x22_2)] rfl (by (try simp only [List.map_toArray,List.map_cons,List.map_nil]);first|done|rfl|(simp only [List.length_drop,List.length_take];rfl)) ?_;(with_reducible refine (a_4.calls (rd l0_0 x22_2) false _ A12.out).mono ?_);rintro e w' ⟨rfl,⟨nd,rfl⟩⟩;refine ⟨_,rfl,?_⟩))
       go_ret
       exact ⟨by first|rfl|(simp [a_z,a_y] <;> rfl)|(simp [*, a_z,a_y] <;> rfl),by repeat (first|(with_reducible first|exact HB.out|apply a_d|apply a_b|apply a_e|refine a_c ?_ d_f.out)|exact HB.out)⟩
      subst c13
      have H1 : (if (rd l0_0 x22_2) = 0 then (some false) else ((a_p.f k2 (rd l0_0 x22_2)).bind fun t184 => (a_h.l0 k2 (wrap64 (x3_2 + (t184.length : Int))) l0_0 (l0_0.length : Int) (wrap64 (x22_2 + 1)) l0_0))) = some r:=by rw [if_pos rfl] at H;exact H
      clear H
      have H:=H1
      clear H1
      by_cases c14 : (rd l0_0 x22_2) = 0
      ·rw [if_pos c14] at H
       have c14b0 : ((rd l0_0 x22_2) == 0) = true:=beq_iff_eq.mpr c14
       have c14b1 : ((rd l0_0 x22_2) != 0) = false:=bne_eq_false_iff_eq.mpr c14
       clear c14
       obtain rfl:=Option.some.inj H
       have p182 : 0 ≤ (x22_2 : Int):=of_decide_eq_true (by first|(with_reducible assumption)|assumption)
       have q182 : x22_2 < (l0_0.length : Int):=of_decide_eq_true (by first|(with_reducible assumption)|assumption)
       obtain ⟨ad182,e182,c_d⟩:=Kd.b_z b_U.out x22_2 p182 q182
       cases e182
       replace c_d:=(HB.out.cell (World.block_lt_of_cell? w _ c_d)).trans c_d
       replace p182:=eq_true p182
       replace q182:=eq_true q182
       go_wp2_with (first|((with_reducible refine a_B (f:=36) rfl ?_);refine a_X (some 27) rfl rfl Try.func36 (by kernel_rfl) rfl #[.int .u32 (rd l0_0 x22_2)] rfl (by (try simp only [List.map_toArray,List.map_cons,List.map_nil]);first|done|rfl|(simp only [List.length_drop,List.length_take];rfl)) ?_;(with_reducible refine (a_4.calls (rd l0_0 x22_2) true _ A12.out).mono ?_);rintro e w' ⟨rfl,⟨nd,rfl⟩⟩;refine ⟨_,rfl,?_⟩))
       go_ret
       exact ⟨by first|rfl|(simp [a_z,a_y] <;> rfl)|(simp [*, a_z,a_y] <;> rfl),by repeat (first|(with_reducible first|exact HB.out|apply a_d|apply a_b|apply a_e|refine a_c ?_ d_f.out)|exact HB.out)⟩
      rw [if_neg c14] at H
      have c14b0 : ((rd l0_0 x22_2) == 0) = false:=beq_eq_false_iff_ne.mpr c14
      have c14b1 : ((rd l0_0 x22_2) != 0) = true:=bne_iff_ne.mpr c14
      replace H:=Option.bind_eq_some_iff.mp H
      obtain ⟨t184,A150,H⟩:=H
      replace H : (a_h.l0 k2 (wrap64 (x3_2 + (t184.length : Int))) l0_0 (l0_0.length : Int) (wrap64 (x22_2 + 1)) l0_0) = some r:=H
      have A15:=a_a.mk A150
      clear A150
      have H':=a_a.mk H
      clear H
      have p182 : 0 ≤ (x22_2 : Int):=of_decide_eq_true (by first|(with_reducible assumption)|assumption)
      have q182 : x22_2 < (l0_0.length : Int):=of_decide_eq_true (by first|(with_reducible assumption)|assumption)
      obtain ⟨ad182,e182,c_d⟩:=Kd.b_z b_U.out x22_2 p182 q182
      cases e182
      replace c_d:=(HB.out.cell (World.block_lt_of_cell? w _ c_d)).trans c_d
      replace p182:=eq_true p182
      replace q182:=eq_true q182
      go_wp2_with (first|((with_reducible refine a_B (f:=36) rfl ?_);refine a_X (some 27) rfl rfl Try.func36 (by kernel_rfl) rfl #[.int .u32 (rd l0_0 x22_2)] rfl (by (try simp only [List.map_toArray,List.map_cons,List.map_nil]);first|done|rfl|(simp only [List.length_drop,List.length_take];rfl)) ?_;(with_reducible refine (a_4.calls (rd l0_0 x22_2) true _ A12.out).mono ?_);rintro e w' ⟨rfl,⟨nd,rfl⟩⟩;refine ⟨_,rfl,?_⟩)|((with_reducible refine a_B (f:=37) rfl ?_);refine a_X (some 35) rfl rfl Try.func37 (by kernel_rfl) rfl #[.int .u32 (rd l0_0 x22_2)] rfl (by (try simp only [List.map_toArray,List.map_cons,List.map_nil]);first|done|rfl|(simp only [List.length_drop,List.length_take];rfl)) ?_;(with_reducible refine (a_p.calls k2 (rd l0_0 x22_2) t184 _ A15.out).mono ?_);rintro e w16 ⟨v185,rfl,ho0,hb⟩;refine ⟨_,rfl,?_⟩;have j_z:=a_a.mk (Kd.a_S ho0 (a_j (by repeat (first|(with_reducible first|exact HB.out|apply a_d|apply a_b|apply a_e|refine a_c ?_ d_f.out)|exact HB.out))));replace c_c:=a_a.mk (a_f (bup_ c_c.out) hb);replace HB:=a_a.mk (a_i (by repeat (first|(with_reducible first|exact HB.out|apply a_d|apply a_b|apply a_e|refine a_c ?_ d_f.out)|exact HB.out)) hb);(try clear hb);(try clear hb2);(try clear hk);(try clear hi);(try clear ho0);obtain ⟨Ao17,co17,eo17⟩:=Kd.a_P j_z.out;subst eo17))
      go_roundg k2
      case measure => have:=HJ1.out;have:=HK2.out;omega
      case rel => exact ⟨(wrap64 (x3_2 + (t184.length : Int))),(wrap64 (x22_2 + 1)),(by first|rfl|(simp;done)|(simp [*];done)),(by first|rfl|(simp;done)|(simp [*];done)),H',⟨by have:=HJ1.out;have:=HK2.out;omega⟩,⟨by (with_reducible repeat (first|refine a_n ?_ _|refine a_q ?_|refine a_s ?_ _));exact c_c.out⟩,⟨by repeat (first|(with_reducible first|exact HB.out|apply a_d|apply a_b|apply a_e|refine a_c ?_ d_f.out)|exact HB.out)⟩⟩
     rw [if_neg c9] at H
     have c9b0 : decide (x22_2 < (l0_0.length : Int)) = false:=decide_eq_false c9
     clear c9
     have H':=a_a.mk H
     clear H
     go_wp2
     go_loopg [40] k2 (fun kq v40 w' => ∃ (x40_3 : Int),v40 = .int .i64 x40_3 ∧ a_a (a_h.l1 kq x3_2 x40_3 l0_0 = some r) ∧ a_a (kq ≤ k2) ∧ a_a (w'.heap[e_j]? = some (.cells #[(.slice A0_0 l0_0.length c0_0)] 26 (0,0))) ∧ a_a (Below w.heap.size w w'))
     case atStart => exact ⟨(0),(by first|rfl|(simp;done)|(simp [*];done)),H',⟨Nat.le_refl _⟩,⟨by (with_reducible repeat (first|refine a_n ?_ _|refine a_q ?_|refine a_s ?_ _));exact c_c.out⟩,⟨by repeat (first|(with_reducible first|exact HB.out|apply a_d|apply a_b|apply a_e|refine a_c ?_ d_f.out)|exact HB.out)⟩⟩
     case round =>
      clear H'
      try clear c1
      try clear p1
      try clear q1
      try clear hx1
      try clear p2
      try clear c3
      try clear c4
      try clear c4b0
      try clear c4b1
      try clear p6
      try clear c7
      try clear c9
      try clear c9b0
      try clear c10
      try clear c10b0
      try clear c11
      try clear c11b0
      try clear c13
      try clear c14
      try clear c14b0
      try clear c14b1
      try clear c16
      try clear d_G
      try clear d_t
      try clear d_6
      try clear d_H
      try clear d_u
      try clear d_7
      try clear c_d
      try clear p182
      try clear p2
      try clear q182
      obtain ⟨x40_3,rfl,HA,HK3,c_c,HB⟩:=hrel
      cases gk with
      | zero => exact absurd HA.out (by simp [a_h.l1])
      | succ k3 =>
       have H:=HA.out
       clear HA
       simp only [a_h.l1] at H
       by_cases c18 : x40_3 < x3_2
       rotate_left
       ·rw [if_neg c18] at H
        have c18b0 : decide (x40_3 < x3_2) = false:=decide_eq_false c18
        clear c18
        obtain rfl:=Option.some.inj H
        go_wp2
        go_ret
        exact ⟨by first|rfl|(simp [a_z,a_y] <;> rfl)|(simp [*, a_z,a_y] <;> rfl),by repeat (first|(with_reducible first|exact HB.out|apply a_d|apply a_b|apply a_e|refine a_c ?_ d_f.out)|exact HB.out)⟩
       rw [if_pos c18] at H
       have c18b0 : decide (x40_3 < x3_2) = true:=decide_eq_true c18
       clear c18
       replace H:=Option.bind_eq_some_iff.mp H
       obtain ⟨⟨t187,t188⟩,A190,H⟩:=H
       replace H : (if t188 = true then (a_h.l1 k3 x3_2 (wrap64 (x40_3 + 1)) l0_0) else (some false)) = some r:=H
       have A19:=a_a.mk A190
       clear A190
       by_cases c20 : t188 = true
       ·subst c20
        have H1 : (a_h.l1 k3 x3_2 (wrap64 (x40_3 + 1)) l0_0) = some r:=by rw [if_pos rfl] at H;exact H
        clear H
        have H:=H1
        clear H1
        have H':=a_a.mk H
        clear H
        have i_i : wr.cell? ⟨e_j,0,none⟩ = some (.slice A0_0 l0_0.length c0_0):=(a_m c_c.out 0).trans rfl
        have i_j:=a_k c_c.out 0
        go_wp2_with (first|((with_reducible refine a_B (f:=21) rfl ?_);refine a_X (some 46) rfl rfl Try.func21 (by kernel_rfl) rfl #[.agg #[.slice A0_0 l0_0.length c0_0],.int .i64 x40_3] rfl (by (try simp only [List.map_toArray,List.map_cons,List.map_nil]);first|done|rfl|(simp only [List.length_drop,List.length_take];rfl)) ?_;(with_reducible refine (a_u.calls k3 _ _ l0_0 x40_3 t187 true _ ?side1 ?side2 A19.out).mono ?_);(case side1 => repeat (first|exact (Kd.a_O b_U.out HB.out)|(with_reducible refine Kd.a_Q ?_ _)|(with_reducible refine Kd.a_R ?_ _)|(with_reducible refine Kd.a_0 ?_)));(case side2 => exact c_K.out);rintro e w22 ⟨rfl,hb⟩;refine ⟨_,rfl,?_⟩;replace c_c:=a_a.mk (a_f (bup_ c_c.out) hb);replace HB:=a_a.mk (a_i (by repeat (first|(with_reducible first|exact HB.out|apply a_d|apply a_b|apply a_e|refine a_c ?_ d_f.out)|exact HB.out)) hb);(try clear hb);(try clear hb2);(try clear hk);(try clear hi)))
        go_roundg k3
        case measure => have:=HJ1.out;have:=HK2.out;have:=HK3.out;omega
        case rel => exact ⟨(wrap64 (x40_3 + 1)),(by first|rfl|(simp;done)|(simp [*];done)),H',⟨by have:=HJ1.out;have:=HK2.out;have:=HK3.out;omega⟩,⟨by (with_reducible repeat (first|refine a_n ?_ _|refine a_q ?_|refine a_s ?_ _));exact c_c.out⟩,⟨by repeat (first|(with_reducible first|exact HB.out|apply a_d|apply a_b|apply a_e|refine a_c ?_ d_f.out)|exact HB.out)⟩⟩
       replace c20:=Bool.eq_false_iff.mpr c20
       subst c20
       have H1 : (some false) = some r:=by rw [if_neg (show ¬ (false = true) by decide)] at H;exact H
       clear H
       have H:=H1
       clear H1
       obtain rfl:=Option.some.inj H
       have f_k : wr.cell? ⟨e_j,0,none⟩ = some (.slice A0_0 l0_0.length c0_0):=(a_m c_c.out 0).trans rfl
       have f_l:=a_k c_c.out 0
       go_wp2_with (first|((with_reducible refine a_B (f:=21) rfl ?_);refine a_X (some 46) rfl rfl Try.func21 (by kernel_rfl) rfl #[.agg #[.slice A0_0 l0_0.length c0_0],.int .i64 x40_3] rfl (by (try simp only [List.map_toArray,List.map_cons,List.map_nil]);first|done|rfl|(simp only [List.length_drop,List.length_take];rfl)) ?_;(with_reducible refine (a_u.calls k3 _ _ l0_0 x40_3 t187 false _ ?side1 ?side2 A19.out).mono ?_);(case side1 => repeat (first|exact (Kd.a_O b_U.out HB.out)|(with_reducible refine Kd.a_Q ?_ _)|(with_reducible refine Kd.a_R ?_ _)|(with_reducible refine Kd.a_0 ?_)));(case side2 => exact c_K.out);rintro e w24 ⟨rfl,hb⟩;refine ⟨_,rfl,?_⟩;replace c_c:=a_a.mk (a_f (bup_ c_c.out) hb);replace HB:=a_a.mk (a_i (by repeat (first|(with_reducible first|exact HB.out|apply a_d|apply a_b|apply a_e|refine a_c ?_ d_f.out)|exact HB.out)) hb);(try clear hb);(try clear hb2);(try clear hk);(try clear hi)))
       go_ret
       exact ⟨by first|rfl|(simp [a_z,a_y] <;> rfl)|(simp [*, a_z,a_y] <;> rfl),by repeat (first|(with_reducible first|exact HB.out|apply a_d|apply a_b|apply a_e|refine a_c ?_ d_f.out)|exact HB.out)⟩
end Go.Proofs.Ytkhbffjfclepfaa.Q
end
section
namespace Go.Proofs.Ytkhbffjfclepfaa.Q
open Go.RowKit Go.Proofs.YtkhbffjfclepfaaW.PrintWords Go.Proofs.YtkhbffjfclepfaaW.PrintLast Go.Proofs.YtkhbffjfclepfaaW.PrintMore
set_option linter.unusedVariables false
set_option linter.unusedSimpArgs false
def a_V.f (a0 : Int) : Option (Int):=if (Go.bits .andNot .u32 a0 255) = 0 then (some 0) else (some 140)
set_option maxHeartbeats 8000000 in
set_option maxRecDepth 100000 in
theorem a_V.calls (a0 : Int) (r : Int) (w : World) (h : a_V.f a0 = some r) :
 Calls Try.prog 38 #[.int .u32 a0] w fun e w' => e = .returned (.int .i64 r) ∧ a_Y w w':=by
 have H : (if (Go.bits .andNot .u32 a0 255) = 0 then (some 0) else (some 140)) = some r:=h
 clear h
 by_cases c2 : (Go.bits .andNot .u32 a0 255) = 0
 ·rw [if_pos c2] at H
  have c2b0 : ((Go.bits .andNot .u32 a0 255) == 0) = true:=beq_iff_eq.mpr c2
  have c2b1 : ((Go.bits .andNot .u32 a0 255) != 0) = false:=bne_eq_false_iff_eq.mpr c2
  clear c2
  obtain rfl:=Option.some.inj H
  go_enter Try.func38,Try.ntmps38
  go_wp2
  go_ret
  exact ⟨by first|rfl|(simp;done)|(simp [*];done),by repeat (first|exact a_Y.refl _|apply a_Y.step)⟩
 rw [if_neg c2] at H
 have c2b0 : ((Go.bits .andNot .u32 a0 255) == 0) = false:=beq_eq_false_iff_ne.mpr c2
 have c2b1 : ((Go.bits .andNot .u32 a0 255) != 0) = true:=bne_iff_ne.mpr c2
 obtain rfl:=Option.some.inj H
 go_enter Try.func38,Try.ntmps38
 go_wp2
 go_ret
 exact ⟨by first|rfl|(simp;done)|(simp [*];done),by repeat (first|exact a_Y.refl _|apply a_Y.step)⟩
end Go.Proofs.Ytkhbffjfclepfaa.Q
end
section
namespace Go.Proofs.Ytkhbffjfclepfaa.Q
open Go.RowKit Go.Proofs.YtkhbffjfclepfaaW.PrintWords Go.Proofs.YtkhbffjfclepfaaW.PrintLast Go.Proofs.YtkhbffjfclepfaaW.PrintMore
set_option linter.unusedVariables false
set_option linter.unusedSimpArgs false
mutual
def a_x.j0 : Nat → Bool → List Int → Option (Int)
 | 0,_,_ => none
 | k + 1,x3,x108000 => a_x.l0 k x3 0 x108000 (x108000.length : Int) 0
def a_x.l0 : Nat → Bool → Int → List Int → Int → Int → Option (Int)
 | 0,_,_,_,_,_ => none
 | k + 1,x3,x4,x18,x19,x20 => if x20 < x19 then (if 0 ≤ x20 then (if x20 < (x18.length : Int) then (if x3 = true then (if (rd x18 x20) = 0 then (a_x.l0 k false (Go.bits .or .u32 x4 (rd x18 x20)) x18 x19 (wrap64 (x20 + 1))) else ((a_V.f (rd x18 x20)).bind fun t109 => (if t109 = 0 then (a_x.l0 k ((Go.bits .and .u32 (rd x18 x20) x4) == 0) (Go.bits .or .u32 x4 (rd x18 x20)) x18 x19 (wrap64 (x20 + 1))) else (a_x.l0 k false (Go.bits .or .u32 x4 (rd x18 x20)) x18 x19 (wrap64 (x20 + 1)))))) else (a_x.l0 k false (Go.bits .or .u32 x4 (rd x18 x20)) x18 x19 (wrap64 (x20 + 1)))) else (none)) else (none)) else (if x3 = true then (if (Go.bits .and .u32 x4 ((x4 + 1) % 4294967296)) = 0 then (some 0) else (some 180)) else (some 180))
end
def a_x.f (k : Nat) (l0_0 : List Int) : Option (Int):=if (l0_0.length : Int) > 0 then (a_x.j0 k (decide ((l0_0.length : Int) ≤ 4)) l0_0) else (a_x.j0 k false l0_0)
theorem a_x.b_x : ∀ k,(∀ y0 y1,LeO (a_x.j0 k y0 y1) (a_x.j0 (k + 1) y0 y1)) ∧ (∀ y0 y1 y2 y3 y4,LeO (a_x.l0 k y0 y1 y2 y3 y4) (a_x.l0 (k + 1) y0 y1 y2 y3 y4))
 | 0 => ⟨fun _ _ r h => by simp [a_x.j0] at h,fun _ _ _ _ _ r h => by simp [a_x.l0] at h⟩
 | k + 1 => by
  obtain ⟨ih0,ih1⟩:=a_x.b_x k
  refine ⟨?_,?_⟩
  ·intro y0 y1
   unfold a_x.j0
   repeat' first
   | (with_reducible exact ih0 _ _)
   | (with_reducible exact ih1 _ _ _ _ _)
   | (with_reducible exact LeO.refl _)
   | (with_reducible exact LeO.none _)
   | (with_reducible refine LeO.ite ?_ ?_)
   | (with_reducible refine LeO.bind ?_ (fun _ => ?_))
   | exact ih0 _ _
   | exact ih1 _ _ _ _ _
   | exact LeO.none _
   | refine LeO.ite ?_ ?_
   | refine LeO.bind ?_ (fun _ => ?_)
  ·intro y0 y1 y2 y3 y4
   unfold a_x.l0
   repeat' first
   | (with_reducible exact ih0 _ _)
   | (with_reducible exact ih1 _ _ _ _ _)
   | (with_reducible exact LeO.refl _)
   | (with_reducible exact LeO.none _)
   | (with_reducible refine LeO.ite ?_ ?_)
   | (with_reducible refine LeO.bind ?_ (fun _ => ?_))
   | exact ih0 _ _
   | exact ih1 _ _ _ _ _
   | exact LeO.none _
   | refine LeO.ite ?_ ?_
   | refine LeO.bind ?_ (fun _ => ?_)
theorem a_x.mono : ∀ a0 k,LeO (a_x.f k a0) (a_x.f (k + 1) a0):=by
 intro a0 k
 obtain ⟨ih0,ih1⟩:=a_x.b_x k
 unfold a_x.f
 repeat' first
  | (with_reducible exact ih0 _ _)
  | (with_reducible exact ih1 _ _ _ _ _)
  | (with_reducible exact LeO.refl _)
  | (with_reducible exact LeO.none _)
  | (with_reducible refine LeO.ite ?_ ?_)
  | (with_reducible refine LeO.bind ?_ (fun _ => ?_))
  | exact ih0 _ _
  | exact ih1 _ _ _ _ _
  | exact LeO.none _
  | refine LeO.ite ?_ ?_
  | refine LeO.bind ?_ (fun _ => ?_)
set_option maxHeartbeats 8000000 in
set_option maxRecDepth 100000 in
theorem a_x.calls (k : Nat) (A0_0 : Option Addr) (c0_0 : Nat) (l0_0 : List Int) (r : Int) (w : World) (hr0_0 : Kd.C (Kd.int .u32) w A0_0 l0_0.length l0_0) (hc0_0 : l0_0.length ≤ c0_0) (h : a_x.f k l0_0 = some r) :
 Calls Try.prog 17 #[.agg #[.slice A0_0 l0_0.length c0_0]] w fun e w' => e = .returned (.int .i64 r) ∧ Below w.heap.size w w':=by
 have hu26:=Try.underlying26
 have b_U:=a_a.mk hr0_0
 have c_K:=a_a.mk hc0_0
 clear hr0_0 hc0_0
 have HB:=a_a.mk (Below.refl w.heap.size w)
 have H : (if (l0_0.length : Int) > 0 then (a_x.j0 k (decide ((l0_0.length : Int) ≤ 4)) l0_0) else (a_x.j0 k false l0_0)) = some r:=h
 clear h
 have HC2:=a_a.mk H
 clear H
 go_enter Try.func17,Try.ntmps17
 go_upto_region 1 with (first|((with_reducible refine a_w (N:=1) rfl ?_);(try (refine a_H (by rfl) ?_;dsimp only));refine a_v ?hg (N:=1) ?hd (cs:=#[.slice A0_0 l0_0.length c0_0]) (t:=26) ?hr ?_;(case hd => rfl);(case hg => rfl);(case hr => first|(go_simp;done)|(go_simp;rfl));intro f_s hg w3 hbox hb;have d_g:=a_a.mk (hbox);have k_E:=a_a.mk ((by rw [hg];exact (a_j (lup_ HB.out)) : w.heap.size ≤ f_s));have e_k:=a_a.mk ((by rw [hg];exact (a_j (lup_ HB.out)) : w.heap.size ≤ f_s));replace HB:=a_a.mk (a_i (lup_ HB.out) hb);clear hb hbox hg))
 (try simp only [Act.put,List.setIfInBounds_toArray,List.set_cons_zero,List.set_cons_succ])
 go_cut [3] (fun v3 wc => ∃ (kq : Nat) (x3_1 : Bool),v3 = .bool x3_1 ∧ a_a (a_x.j0 kq x3_1 l0_0 = some r) ∧ a_a (kq ≤ k) ∧ a_a (wc.heap[f_s]? = some (.cells #[(.slice A0_0 l0_0.length c0_0)] 26 (0,0))) ∧ a_a (Below w.heap.size w wc))
 case first =>
  have H:=HC2.out
  clear HC2
  by_cases c4 : (l0_0.length : Int) > 0
  ·rw [if_pos c4] at H
   have c4b0 : decide (0 < (l0_0.length : Int)) = true:=decide_eq_true c4
   have c4b1 : decide (0 < l0_0.length) = true:=decide_eq_true (by omega)
   clear c4
   (first|rw [c4b0]|(simp only [e_f,e_e];rw [c4b0])|skip)
   have H':=a_a.mk H
   clear H
   have d_G : w3.cell? ⟨f_s,0,none⟩ = some (.slice A0_0 l0_0.length c0_0):=(a_m d_g.out 0).trans rfl
   have d_H:=a_k d_g.out 0
   go_wp2
   go_meet
   case rel => exact ⟨_,(decide ((l0_0.length : Int) ≤ 4)),(by first|rfl|(simp;done)|(simp [*];done)),H',⟨by first|omega|exact Nat.le_refl _⟩,⟨by (with_reducible repeat (first|refine a_n ?_ _|refine a_q ?_|refine a_s ?_ _));exact d_g.out⟩,⟨by repeat (first|(with_reducible first|exact HB.out|apply a_d|apply a_b|apply a_e|refine a_c ?_ e_k.out)|exact HB.out)⟩⟩
  rw [if_neg c4] at H
  have c4b0 : decide (0 < (l0_0.length : Int)) = false:=decide_eq_false c4
  have c4b1 : decide (0 < l0_0.length) = false:=decide_eq_false (by omega)
  clear c4
  (first|rw [c4b0]|(simp only [e_f,e_e];rw [c4b0])|skip)
  have H':=a_a.mk H
  clear H
  have d_t : w3.cell? ⟨f_s,0,none⟩ = some (.slice A0_0 l0_0.length c0_0):=(a_m d_g.out 0).trans rfl
  have d_u:=a_k d_g.out 0
  go_wp2
  go_meet
  case rel => exact ⟨_,(false),(by first|rfl|(simp;done)|(simp [*];done)),H',⟨by first|omega|exact Nat.le_refl _⟩,⟨by (with_reducible repeat (first|refine a_n ?_ _|refine a_q ?_|refine a_s ?_ _));exact d_g.out⟩,⟨by repeat (first|(with_reducible first|exact HB.out|apply a_d|apply a_b|apply a_e|refine a_c ?_ e_k.out)|exact HB.out)⟩⟩
 case rest =>
  clear HC2
  try clear c1
  try clear p2
  try clear c4
  try clear c4b0
  try clear c4b1
  try clear d_G
  try clear d_t
  try clear d_H
  try clear d_u
  obtain ⟨kq,x3_1,rfl,HA,HJ1,d_g,HB⟩:=hcut
  cases kq with
  | zero => exact absurd HA.out (by simp [a_x.j0])
  | succ kj1 =>
   have H:=HA.out
   clear HA
   simp only [a_x.j0] at H
   have H':=a_a.mk H
   clear H
   have c_U : wc.cell? ⟨f_s,0,none⟩ = some (.slice A0_0 l0_0.length c0_0):=(a_m d_g.out 0).trans rfl
   have c_V:=a_k d_g.out 0
   go_wp2
   go_loopg [3,4,20] kj1 (fun kq v3 v4 v20 w' => ∃ (x3_2 : Bool) (x4_2 : Int) (x20_2 : Int),v3 = .bool x3_2 ∧ v4 = .int .u32 x4_2 ∧ v20 = .int .i64 x20_2 ∧ a_a (a_x.l0 kq x3_2 x4_2 l0_0 (l0_0.length : Int) x20_2 = some r) ∧ a_a (kq ≤ kj1) ∧ a_a (w'.heap[f_s]? = some (.cells #[(.slice A0_0 l0_0.length c0_0)] 26 (0,0))) ∧ a_a (Below w.heap.size w w'))
   case atStart => exact ⟨(x3_1),(0),(0),(by first|rfl|(simp;done)|(simp [*];done)),(by first|rfl|(simp;done)|(simp [*];done)),(by first|rfl|(simp;done)|(simp [*];done)),H',⟨Nat.le_refl _⟩,⟨by (with_reducible repeat (first|refine a_n ?_ _|refine a_q ?_|refine a_s ?_ _));exact d_g.out⟩,⟨by repeat (first|(with_reducible first|exact HB.out|apply a_d|apply a_b|apply a_e|refine a_c ?_ e_k.out)|exact HB.out)⟩⟩
   case round =>
    clear H'
    try clear c1
    try clear p2
    try clear c4
    try clear c4b0
    try clear c4b1
    try clear d_G
    try clear d_t
    try clear c_U
    try clear d_H
    try clear d_u
    try clear c_V
    try clear p2
    obtain ⟨x3_2,x4_2,x20_2,rfl,rfl,rfl,HA,HK2,d_g,HB⟩:=hrel
    cases gk with
    | zero => exact absurd HA.out (by simp [a_x.l0])
    | succ k2 =>
     have H:=HA.out
     clear HA
     simp only [a_x.l0] at H
     by_cases c8 : x20_2 < (l0_0.length : Int)
     rotate_left
     ·rw [if_neg c8] at H
      have c8b0 : decide (x20_2 < (l0_0.length : Int)) = false:=decide_eq_false c8
      clear c8
      by_cases c15 : x3_2 = true
      rotate_left
      ·replace c15:=Bool.eq_false_iff.mpr c15
       subst c15
       have H1 : (some 180) = some r:=by rw [if_neg (show ¬ (false = true) by decide)] at H;exact H
       clear H
       have H:=H1
       clear H1
       obtain rfl:=Option.some.inj H
       go_wp2
       go_ret
       exact ⟨by first|rfl|(simp [a_z,a_y] <;> rfl)|(simp [*, a_z,a_y] <;> rfl),by repeat (first|(with_reducible first|exact HB.out|apply a_d|apply a_b|apply a_e|refine a_c ?_ e_k.out)|exact HB.out)⟩
      subst c15
      have H1 : (if (Go.bits .and .u32 x4_2 ((x4_2 + 1) % 4294967296)) = 0 then (some 0) else (some 180)) = some r:=by rw [if_pos rfl] at H;exact H
      clear H
      have H:=H1
      clear H1
      by_cases c16 : (Go.bits .and .u32 x4_2 ((x4_2 + 1) % 4294967296)) = 0
      ·rw [if_pos c16] at H
       have c16b0 : ((Go.bits .and .u32 x4_2 ((x4_2 + 1) % 4294967296)) == 0) = true:=beq_iff_eq.mpr c16
       have c16b1 : ((Go.bits .and .u32 x4_2 ((x4_2 + 1) % 4294967296)) != 0) = false:=bne_eq_false_iff_eq.mpr c16
       clear c16
       obtain rfl:=Option.some.inj H
       go_wp2
       go_ret
       exact ⟨by first|rfl|(simp [a_z,a_y] <;> rfl)|(simp [*, a_z,a_y] <;> rfl),by repeat (first|(with_reducible first|exact HB.out|apply a_d|apply a_b|apply a_e|refine a_c ?_ e_k.out)|exact HB.out)⟩
      rw [if_neg c16] at H
      have c16b0 : ((Go.bits .and .u32 x4_2 ((x4_2 + 1) % 4294967296)) == 0) = false:=beq_eq_false_iff_ne.mpr c16
      have c16b1 : ((Go.bits .and .u32 x4_2 ((x4_2 + 1) % 4294967296)) != 0) = true:=bne_iff_ne.mpr c16
      obtain rfl:=Option.some.inj H
      go_wp2
      go_ret
      exact ⟨by first|rfl|(simp [a_z,a_y] <;> rfl)|(simp [*, a_z,a_y] <;> rfl),by repeat (first|(with_reducible first|exact HB.out|apply a_d|apply a_b|apply a_e|refine a_c ?_ e_k.out)|exact HB.out)⟩
     rw [if_pos c8] at H
     have c8b0 : decide (x20_2 < (l0_0.length : Int)) = true:=decide_eq_true c8
     clear c8
     by_cases c9 : 0 ≤ x20_2
     rotate_left
     ·rw [if_neg c9] at H
      exact absurd H (by simp)
     rw [if_pos c9] at H
     have c9b0 : decide (0 ≤ x20_2) = true:=decide_eq_true c9
     clear c9
     by_cases c10 : x20_2 < (l0_0.length : Int)
     rotate_left
     ·rw [if_neg c10] at H
      exact absurd H (by simp)
     rw [if_pos c10] at H
     have c10b0 : decide (x20_2 < (l0_0.length : Int)) = true:=decide_eq_true c10
     clear c10
     by_cases c11 : x3_2 = true
     rotate_left
     ·replace c11:=Bool.eq_false_iff.mpr c11
      subst c11
      have H1 : (a_x.l0 k2 false (Go.bits .or .u32 x4_2 (rd l0_0 x20_2)) l0_0 (l0_0.length : Int) (wrap64 (x20_2 + 1))) = some r:=by rw [if_neg (show ¬ (false = true) by decide)] at H;exact H
      clear H
      have H:=H1
      clear H1
      have H':=a_a.mk H
      clear H
      have p108 : 0 ≤ (x20_2 : Int):=of_decide_eq_true (by first|(with_reducible assumption)|assumption)
      have q108 : x20_2 < (l0_0.length : Int):=of_decide_eq_true (by first|(with_reducible assumption)|assumption)
      obtain ⟨ad108,e108,b_W⟩:=Kd.b_z b_U.out x20_2 p108 q108
      cases e108
      replace b_W:=(HB.out.cell (World.block_lt_of_cell? w _ b_W)).trans b_W
      replace p108:=eq_true p108
      replace q108:=eq_true q108
      go_wp2
      go_roundg k2
      case measure => have:=HJ1.out;have:=HK2.out;omega
      case rel => exact ⟨(false),(Go.bits .or .u32 x4_2 (rd l0_0 x20_2)),(wrap64 (x20_2 + 1)),(by first|rfl|(simp;done)|(simp [*];done)),(by first|rfl|(simp;done)|(simp [*];done)),(by first|rfl|(simp;done)|(simp [*];done)),H',⟨by have:=HJ1.out;have:=HK2.out;omega⟩,⟨by (with_reducible repeat (first|refine a_n ?_ _|refine a_q ?_|refine a_s ?_ _));exact d_g.out⟩,⟨by repeat (first|(with_reducible first|exact HB.out|apply a_d|apply a_b|apply a_e|refine a_c ?_ e_k.out)|exact HB.out)⟩⟩
     subst c11
     have H1 : (if (rd l0_0 x20_2) = 0 then (a_x.l0 k2 false (Go.bits .or .u32 x4_2 (rd l0_0 x20_2)) l0_0 (l0_0.length : Int) (wrap64 (x20_2 + 1))) else ((a_V.f (rd l0_0 x20_2)).bind fun t109 => (if t109 = 0 then (a_x.l0 k2 ((Go.bits .and .u32 (rd l0_0 x20_2) x4_2) == 0) (Go.bits .or .u32 x4_2 (rd l0_0 x20_2)) l0_0 (l0_0.length : Int) (wrap64 (x20_2 + 1))) else (a_x.l0 k2 false (Go.bits .or .u32 x4_2 (rd l0_0 x20_2)) l0_0 (l0_0.length : Int) (wrap64 (x20_2 + 1)))))) = some r:=by rw [if_pos rfl] at H;exact H
     clear H
     have H:=H1
     clear H1
     by_cases c12 : (rd l0_0 x20_2) = 0
     ·rw [if_pos c12] at H
      have c12b0 : ((rd l0_0 x20_2) == 0) = true:=beq_iff_eq.mpr c12
      have c12b1 : ((rd l0_0 x20_2) != 0) = false:=bne_eq_false_iff_eq.mpr c12
      clear c12
      have H':=a_a.mk H
      clear H
      have p108 : 0 ≤ (x20_2 : Int):=of_decide_eq_true (by first|(with_reducible assumption)|assumption)
      have q108 : x20_2 < (l0_0.length : Int):=of_decide_eq_true (by first|(with_reducible assumption)|assumption)
      obtain ⟨ad108,e108,b_W⟩:=Kd.b_z b_U.out x20_2 p108 q108
      cases e108
      replace b_W:=(HB.out.cell (World.block_lt_of_cell? w _ b_W)).trans b_W
      replace p108:=eq_true p108
      replace q108:=eq_true q108
      go_wp2
      go_roundg k2
      case measure => have:=HJ1.out;have:=HK2.out;omega
      case rel => exact ⟨(false),(Go.bits .or .u32 x4_2 (rd l0_0 x20_2)),(wrap64 (x20_2 + 1)),(by first|rfl|(simp;done)|(simp [*];done)),(by first|rfl|(simp;done)|(simp [*];done)),(by first|rfl|(simp;done)|(simp [*];done)),H',⟨by have:=HJ1.out;have:=HK2.out;omega⟩,⟨by (with_reducible repeat (first|refine a_n ?_ _|refine a_q ?_|refine a_s ?_ _));exact d_g.out⟩,⟨by repeat (first|(with_reducible first|exact HB.out|apply a_d|apply a_b|apply a_e|refine a_c ?_ e_k.out)|exact HB.out)⟩⟩
     rw [if_neg c12] at H
     have c12b0 : ((rd l0_0 x20_2) == 0) = false:=beq_eq_false_iff_ne.mpr c12
     have c12b1 : ((rd l0_0 x20_2) != 0) = true:=bne_iff_ne.mpr c12
     replace H:=Option.bind_eq_some_iff.mp H
     obtain ⟨t109,A130,H⟩:=H
     replace H : (if t109 = 0 then (a_x.l0 k2 ((Go.bits .and .u32 (rd l0_0 x20_2) x4_2) == 0) (Go.bits .or .u32 x4_2 (rd l0_0 x20_2)) l0_0 (l0_0.length : Int) (wrap64 (x20_2 + 1))) else (a_x.l0 k2 false (Go.bits .or .u32 x4_2 (rd l0_0 x20_2)) l0_0 (l0_0.length : Int) (wrap64 (x20_2 + 1)))) = some r:=H
     have A13:=a_a.mk A130
     clear A130
     by_cases c14 : t109 = 0
     ·rw [if_pos c14] at H
      have c14b0 : (t109 == 0) = true:=beq_iff_eq.mpr c14
      have c14b1 : (t109 != 0) = false:=bne_eq_false_iff_eq.mpr c14
      clear c14
      have H':=a_a.mk H
      clear H
      have p108 : 0 ≤ (x20_2 : Int):=of_decide_eq_true (by first|(with_reducible assumption)|assumption)
      have q108 : x20_2 < (l0_0.length : Int):=of_decide_eq_true (by first|(with_reducible assumption)|assumption)
      obtain ⟨ad108,e108,b_W⟩:=Kd.b_z b_U.out x20_2 p108 q108
      cases e108
      replace b_W:=(HB.out.cell (World.block_lt_of_cell? w _ b_W)).trans b_W
      replace p108:=eq_true p108
      replace q108:=eq_true q108
      go_wp2_with (first|(go_at_call 38;(with_reducible refine (a_V.calls (rd l0_0 x20_2) t109 _ A13.out).mono ?_);rintro e w' ⟨rfl,⟨nd,rfl⟩⟩))
      go_roundg k2
      case measure => have:=HJ1.out;have:=HK2.out;omega
      case rel => exact ⟨(((Go.bits .and .u32 (rd l0_0 x20_2) x4_2) == 0)),(Go.bits .or .u32 x4_2 (rd l0_0 x20_2)),(wrap64 (x20_2 + 1)),(by first|rfl|(simp;done)|(simp [*];done)),(by first|rfl|(simp;done)|(simp [*];done)),(by first|rfl|(simp;done)|(simp [*];done)),H',⟨by have:=HJ1.out;have:=HK2.out;omega⟩,⟨by (with_reducible repeat (first|refine a_n ?_ _|refine a_q ?_|refine a_s ?_ _));exact d_g.out⟩,⟨by repeat (first|(with_reducible first|exact HB.out|apply a_d|apply a_b|apply a_e|refine a_c ?_ e_k.out)|exact HB.out)⟩⟩
     rw [if_neg c14] at H
     have c14b0 : (t109 == 0) = false:=beq_eq_false_iff_ne.mpr c14
     have c14b1 : (t109 != 0) = true:=bne_iff_ne.mpr c14
     have H':=a_a.mk H
     clear H
     have p108 : 0 ≤ (x20_2 : Int):=of_decide_eq_true (by first|(with_reducible assumption)|assumption)
     have q108 : x20_2 < (l0_0.length : Int):=of_decide_eq_true (by first|(with_reducible assumption)|assumption)
     obtain ⟨ad108,e108,b_W⟩:=Kd.b_z b_U.out x20_2 p108 q108
     cases e108
     replace b_W:=(HB.out.cell (World.block_lt_of_cell? w _ b_W)).trans b_W
     replace p108:=eq_true p108
     replace q108:=eq_true q108
     go_wp2_with (first|(go_at_call 38;(with_reducible refine (a_V.calls (rd l0_0 x20_2) t109 _ A13.out).mono ?_);rintro e w' ⟨rfl,⟨nd,rfl⟩⟩))
     go_roundg k2
     case measure => have:=HJ1.out;have:=HK2.out;omega
     case rel => exact ⟨(false),(Go.bits .or .u32 x4_2 (rd l0_0 x20_2)),(wrap64 (x20_2 + 1)),(by first|rfl|(simp;done)|(simp [*];done)),(by first|rfl|(simp;done)|(simp [*];done)),(by first|rfl|(simp;done)|(simp [*];done)),H',⟨by have:=HJ1.out;have:=HK2.out;omega⟩,⟨by (with_reducible repeat (first|refine a_n ?_ _|refine a_q ?_|refine a_s ?_ _));exact d_g.out⟩,⟨by repeat (first|(with_reducible first|exact HB.out|apply a_d|apply a_b|apply a_e|refine a_c ?_ e_k.out)|exact HB.out)⟩⟩
end Go.Proofs.Ytkhbffjfclepfaa.Q
end
section
namespace Go.Proofs.Ytkhbffjfclepfaa.Q
open Go.RowKit Go.Proofs.YtkhbffjfclepfaaW.PrintWords Go.Proofs.YtkhbffjfclepfaaW.PrintLast Go.Proofs.YtkhbffjfclepfaaW.PrintMore
set_option linter.unusedVariables false
set_option linter.unusedSimpArgs false
def a_D.l0 : Nat → List Int → List Int → Int → Int → Option (List Int × Int)
 | 0,_,_,_,_ => none
 | k + 1,x5,x19,x20,x21 => if x21 < x20 then (if 0 ≤ x21 then (if x21 < (x19.length : Int) then (if x5.length < 140737488355328 then (a_D.l0 k (x5 ++ [(rd x19 x21) % 256]) x19 x20 (wrap64 (x21 + 1))) else (none)) else (none)) else (none)) else (some (x5,0))
def a_D.f (k : Nat) (l0_0 : List Int) : Option (List Int × Int):=(a_x.f k l0_0).bind fun t353 => (if t353 = 0 then (a_D.l0 k (([((l0_0.length : Int)) % 256] : List Int)) l0_0 (l0_0.length : Int) 0) else (some (([] : List Int),t353)))
theorem a_D.b_x : ∀ k,(∀ y0 y1 y2 y3,LeO (a_D.l0 k y0 y1 y2 y3) (a_D.l0 (k + 1) y0 y1 y2 y3))
 | 0 => fun _ _ _ _ r h => by simp [a_D.l0] at h
 | k + 1 => by
  have ih0:=a_D.b_x k
  ·intro y0 y1 y2 y3
   unfold a_D.l0
   repeat' first
   | (with_reducible exact ih0 _ _ _ _)
   | (with_reducible exact a_x.mono _ _)
   | (with_reducible exact LeO.refl _)
   | (with_reducible exact LeO.none _)
   | (with_reducible refine LeO.ite ?_ ?_)
   | (with_reducible refine LeO.bind ?_ (fun _ => ?_))
   | exact ih0 _ _ _ _
   | exact a_x.mono _ _
   | exact LeO.none _
   | refine LeO.ite ?_ ?_
   | refine LeO.bind ?_ (fun _ => ?_)
theorem a_D.mono : ∀ a0 k,LeO (a_D.f k a0) (a_D.f (k + 1) a0):=by
 intro a0 k
 have ih0:=a_D.b_x k
 unfold a_D.f
 repeat' first
  | (with_reducible exact ih0 _ _ _ _)
  | (with_reducible exact a_x.mono _ _)
  | (with_reducible exact LeO.refl _)
  | (with_reducible exact LeO.none _)
  | (with_reducible refine LeO.ite ?_ ?_)
  | (with_reducible refine LeO.bind ?_ (fun _ => ?_))
  | exact ih0 _ _ _ _
  | exact a_x.mono _ _
  | exact LeO.none _
  | refine LeO.ite ?_ ?_
  | refine LeO.bind ?_ (fun _ => ?_)
set_option maxHeartbeats 8000000 in
set_option maxRecDepth 100000 in
theorem a_D.calls (k : Nat) (A0_0 : Option Addr) (c0_0 : Nat) (l0_0 : List Int) (r1 : List Int) (r2 : Int) (w : World) (hr0_0 : Kd.C (Kd.int .u32) w A0_0 l0_0.length l0_0) (hc0_0 : l0_0.length ≤ c0_0) (h : a_D.f k l0_0 = some (r1,r2)) :
 Calls Try.prog 24 #[.agg #[.slice A0_0 l0_0.length c0_0]] w fun e w' => ∃ v0_ : Value,e = .returned (.tuple #[v0_,.int .i64 r2]) ∧ Kd.R (Kd.int .u8) 5 w' w.heap.size (fun _ => True) v0_ r1 ∧ Below w.heap.size w w':=by
 have hu26:=Try.underlying26
 have b_U:=a_a.mk hr0_0
 have c_K:=a_a.mk hc0_0
 clear hr0_0 hc0_0
 have HB:=a_a.mk (Below.refl w.heap.size w)
 have H : ((a_x.f k l0_0).bind fun t353 => (if t353 = 0 then (a_D.l0 k (([((l0_0.length : Int)) % 256] : List Int)) l0_0 (l0_0.length : Int) 0) else (some (([] : List Int),t353)))) = some (r1,r2):=h
 clear h
 replace H:=Option.bind_eq_some_iff.mp H
 obtain ⟨t353,A20,H⟩:=H
 replace H : (if t353 = 0 then (a_D.l0 k (([((l0_0.length : Int)) % 256] : List Int)) l0_0 (l0_0.length : Int) 0) else (some (([] : List Int),t353))) = some (r1,r2):=H
 have A2:=a_a.mk A20
 clear A20
 by_cases c3 : t353 = 0
 rotate_left
 ·rw [if_neg c3] at H
  have c3b0 : (t353 == 0) = false:=beq_eq_false_iff_ne.mpr c3
  have c3b1 : (t353 != 0) = true:=bne_iff_ne.mpr c3
  simp only [Option.some.injEq,Prod.mk.injEq] at H
  obtain ⟨rfl,rfl⟩:=H
  go_enter Try.func24,Try.ntmps24
  go_wp2_with (first|((with_reducible refine a_w (N:=1) rfl ?_);refine a_v ?hg (N:=1) ?hd (cs:=#[.slice A0_0 l0_0.length c0_0]) (t:=26) ?hr ?_;(case hd => rfl);(case hg => rfl);(case hr => first|(go_simp;done)|(go_simp;rfl));intro d_8 hg w16 hbox hb;have c_w:=a_a.mk (hbox);have j_A:=a_a.mk ((by rw [hg];exact (a_j (lup_ HB.out)) : w.heap.size ≤ d_8));have d_9:=a_a.mk ((by rw [hg];exact (a_j (lup_ HB.out)) : w.heap.size ≤ d_8));replace HB:=a_a.mk (a_i (lup_ HB.out) hb);clear hb hbox hg;have i_k : w16.cell? ⟨d_8,0,none⟩ = some (.slice A0_0 l0_0.length c0_0):=(a_m c_w.out 0).trans rfl;have i_l:=a_k c_w.out 0)|((with_reducible refine a_B (f:=17) rfl ?_);refine a_X (some 9) rfl rfl Try.func17 (by kernel_rfl) rfl #[.agg #[.slice A0_0 l0_0.length c0_0]] rfl (by (try simp only [List.map_toArray,List.map_cons,List.map_nil]);first|done|rfl|(simp only [List.length_drop,List.length_take];rfl)) ?_;(with_reducible refine (a_x.calls k _ _ l0_0 t353 _ ?side1 ?side2 A2.out).mono ?_);(case side1 => repeat (first|exact (Kd.a_O b_U.out HB.out)|(with_reducible refine Kd.a_Q ?_ _)|(with_reducible refine Kd.a_R ?_ _)|(with_reducible refine Kd.a_0 ?_)));(case side2 => exact c_K.out);rintro e w18 ⟨rfl,hb⟩;refine ⟨_,rfl,?_⟩;replace c_w:=a_a.mk (a_f (bup_ c_w.out) hb);replace HB:=a_a.mk (a_i (by repeat (first|(with_reducible first|exact HB.out|apply a_d|apply a_b|apply a_e|refine a_c ?_ d_9.out)|exact HB.out)) hb);(try clear hb);(try clear hb2);(try clear hk);(try clear hi)))
  go_ret2
  exact ⟨_,by first|rfl|(simp [a_z,a_y] <;> rfl)|(simp [*, a_z,a_y] <;> rfl),by first|exact Kd.c_z _ _ _ _ _|exact Kd.d_M _ _ _ _ _|exact Kd.d_I _ _ _ _ _|exact Kd.d_K _ _ _ _ _|exact Kd.d_L _ _ _ _ _,by repeat (first|(with_reducible first|exact HB.out|apply a_d|apply a_b|apply a_e|refine a_c ?_ d_9.out)|exact HB.out)⟩
 rw [if_pos c3] at H
 have c3b0 : (t353 == 0) = true:=beq_iff_eq.mpr c3
 have c3b1 : (t353 != 0) = false:=bne_eq_false_iff_eq.mpr c3
 clear c3
 obtain ⟨y354,hy354⟩ : ∃ y_ : List Int,y_ = (([((l0_0.length : Int)) % 256] : List Int)):=⟨_,rfl⟩
 replace H : (a_D.l0 k y354 l0_0 (l0_0.length : Int) 0) = some (r1,r2):=by first|(rw [hy354];with_reducible exact H)|(have H2_:=(Option.bind_some _ _).symm.trans H;rw [hy354];with_reducible exact H2_)|(have H2_:=(Option.bind_some _ _).symm.trans H;with_reducible exact H2_)|with_reducible exact H|(rw [hy354];exact H)|exact H
 have Ny354:=a_a.mk hy354
 clear hy354
 have H':=a_a.mk H
 clear H
 go_enter Try.func24,Try.ntmps24
 go_wp2_with (first|((with_reducible refine a_w (N:=1) rfl ?_);refine a_v ?hg (N:=1) ?hd (cs:=#[.slice A0_0 l0_0.length c0_0]) (t:=26) ?hr ?_;(case hd => rfl);(case hg => rfl);(case hr => first|(go_simp;done)|(go_simp;rfl));intro d_8 hg w4 hbox hb;have c_w:=a_a.mk (hbox);have j_A:=a_a.mk ((by rw [hg];exact (a_j (lup_ HB.out)) : w.heap.size ≤ d_8));have d_9:=a_a.mk ((by rw [hg];exact (a_j (lup_ HB.out)) : w.heap.size ≤ d_8));replace HB:=a_a.mk (a_i (lup_ HB.out) hb);clear hb hbox hg;have d_G : w4.cell? ⟨d_8,0,none⟩ = some (.slice A0_0 l0_0.length c0_0):=(a_m c_w.out 0).trans rfl;have d_H:=a_k c_w.out 0)|((with_reducible refine a_B (f:=17) rfl ?_);refine a_X (some 9) rfl rfl Try.func17 (by kernel_rfl) rfl #[.agg #[.slice A0_0 l0_0.length c0_0]] rfl (by (try simp only [List.map_toArray,List.map_cons,List.map_nil]);first|done|rfl|(simp only [List.length_drop,List.length_take];rfl)) ?_;(with_reducible refine (a_x.calls k _ _ l0_0 t353 _ ?side1 ?side2 A2.out).mono ?_);(case side1 => repeat (first|exact (Kd.a_O b_U.out HB.out)|(with_reducible refine Kd.a_Q ?_ _)|(with_reducible refine Kd.a_R ?_ _)|(with_reducible refine Kd.a_0 ?_)));(case side2 => exact c_K.out);rintro e w6 ⟨rfl,hb⟩;refine ⟨_,rfl,?_⟩;replace c_w:=a_a.mk (a_f (bup_ c_w.out) hb);replace HB:=a_a.mk (a_i (by repeat (first|(with_reducible first|exact HB.out|apply a_d|apply a_b|apply a_e|refine a_c ?_ d_9.out)|exact HB.out)) hb);(try clear hb);(try clear hb2);(try clear hk);(try clear hi);have c_U : w6.cell? ⟨d_8,0,none⟩ = some (.slice A0_0 l0_0.length c0_0):=(a_m c_w.out 0).trans rfl;have c_V:=a_k c_w.out 0)|((with_reducible refine a_w (N:=17) rfl ?_);refine Kd.c_T (Kd.int .u8) _ 5 ?hg (N:=17) ?hd (xs:=([((l0_0.length : Int)) % 256] : List Int)) (inner:=[.int .u8 (((l0_0.length : Int)) % 256)]) (ok:=fun _ => True) (okp:=fun _ => True) ?hr ?hp (fun _ hk => hk) trivial (Below.refl _ _) (Nat.le_refl _) (by simp) ?_;(case hd => rfl);(case hg => rfl);(case hr => first|(go_simp;done)|(go_simp;rfl));(case hp => exact (Reps.one (show Kd.M (Kd.int .u8) _ _ _ (((l0_0.length : Int)) % 256) [.int .u8 (((l0_0.length : Int)) % 256)] from rfl) (Reps.none _ _)));intro v355 w8 ho9 hb hg_ hnew_;clear hg_ hnew_;(first|rw [← Ny354.out] at ho9|(simp only [Int.reduceToNat] at ho9;rw [← Ny354.out] at ho9));have j_B:=a_a.mk (Kd.a_S ho9 (a_j (by repeat (first|(with_reducible first|exact HB.out|apply a_d|apply a_b|apply a_e|refine a_c ?_ d_9.out)|exact HB.out))));replace c_w:=a_a.mk (a_f (bup_ c_w.out) hb);replace HB:=a_a.mk (a_i (by repeat (first|(with_reducible first|exact HB.out|apply a_d|apply a_b|apply a_e|refine a_c ?_ d_9.out)|exact HB.out)) hb);clear hb ho9;have g_C : w8.cell? ⟨d_8,0,none⟩ = some (.slice A0_0 l0_0.length c0_0):=(a_m c_w.out 0).trans rfl;have g_D:=a_k c_w.out 0))
 go_loopg [5,21] k (fun kq v5 v21 w' => ∃ (x5_1 : List Int) (x21_1 : Int),v21 = .int .i64 x21_1 ∧ a_a (a_D.l0 kq x5_1 l0_0 (l0_0.length : Int) x21_1 = some (r1,r2)) ∧ a_a (kq ≤ k) ∧ a_a (Kd.R (Kd.int .u8) 5 w' w.heap.size (fun _ => True) v5 x5_1) ∧ a_a (w'.heap[d_8]? = some (.cells #[(.slice A0_0 l0_0.length c0_0)] 26 (0,0))) ∧ a_a (Below w.heap.size w w'))
 case atStart => exact ⟨(y354),(0),(by first|rfl|(simp;done)|(simp [*];done)),H',⟨Nat.le_refl _⟩,⟨by (with_reducible repeat (first|apply Kd.a_J|apply Kd.a_I|apply Kd.a_M));exact j_B.out⟩,⟨by (with_reducible repeat (first|refine a_n ?_ _|refine a_q ?_|refine a_s ?_ _));exact c_w.out⟩,⟨by repeat (first|(with_reducible first|exact HB.out|apply a_d|apply a_b|apply a_e|refine a_c ?_ d_9.out)|exact HB.out)⟩⟩
 case round =>
  clear H'
  try clear c1
  try clear c2
  try clear p2
  try clear c3
  try clear c3b0
  try clear c3b1
  try clear g_C
  try clear d_G
  try clear c_U
  try clear g_D
  try clear d_H
  try clear c_V
  obtain ⟨x5_1,x21_1,rfl,HA,HK1,HO_5,c_w,HB⟩:=hrel
  cases gk with
  | zero => exact absurd HA.out (by simp [a_D.l0])
  | succ k1 =>
   have H:=HA.out
   clear HA
   simp only [a_D.l0] at H
   by_cases c11 : x21_1 < (l0_0.length : Int)
   rotate_left
   ·rw [if_neg c11] at H
    have c11b0 : decide (x21_1 < (l0_0.length : Int)) = false:=decide_eq_false c11
    clear c11
    simp only [Option.some.injEq,Prod.mk.injEq] at H
    obtain ⟨rfl,rfl⟩:=H
    go_wp2
    go_ret2
    exact ⟨_,by first|rfl|(simp [a_z,a_y] <;> rfl)|(simp [*, a_z,a_y] <;> rfl),by (with_reducible repeat (first|apply Kd.a_J|apply Kd.a_I|apply Kd.a_M));exact HO_5.out,by repeat (first|(with_reducible first|exact HB.out|apply a_d|apply a_b|apply a_e|refine a_c ?_ d_9.out)|exact HB.out)⟩
   rw [if_pos c11] at H
   have c11b0 : decide (x21_1 < (l0_0.length : Int)) = true:=decide_eq_true c11
   clear c11
   by_cases c12 : 0 ≤ x21_1
   rotate_left
   ·rw [if_neg c12] at H
    exact absurd H (by simp)
   rw [if_pos c12] at H
   have c12b0 : decide (0 ≤ x21_1) = true:=decide_eq_true c12
   clear c12
   by_cases c13 : x21_1 < (l0_0.length : Int)
   rotate_left
   ·rw [if_neg c13] at H
    exact absurd H (by simp)
   rw [if_pos c13] at H
   have c13b0 : decide (x21_1 < (l0_0.length : Int)) = true:=decide_eq_true c13
   clear c13
   by_cases c14 : x5_1.length < 140737488355328
   rotate_left
   ·rw [if_neg c14] at H
    exact absurd H (by simp)
   rw [if_pos c14] at H
   have LMc14:=a_a.mk c14
   clear c14
   obtain ⟨y358,hy358⟩ : ∃ y_ : List Int,y_ = (x5_1 ++ [(rd l0_0 x21_1) % 256]):=⟨_,rfl⟩
   replace H : (a_D.l0 k1 y358 l0_0 (l0_0.length : Int) (wrap64 (x21_1 + 1))) = some (r1,r2):=by first|(rw [hy358];with_reducible exact H)|(have H2_:=(Option.bind_some _ _).symm.trans H;rw [hy358];with_reducible exact H2_)|(have H2_:=(Option.bind_some _ _).symm.trans H;with_reducible exact H2_)|with_reducible exact H|(rw [hy358];exact H)|exact H
   have Ny358:=a_a.mk hy358
   clear hy358
   have H':=a_a.mk H
   clear H
   have p357 : 0 ≤ (x21_1 : Int):=of_decide_eq_true (by first|(with_reducible assumption)|assumption)
   have q357 : x21_1 < (l0_0.length : Int):=of_decide_eq_true (by first|(with_reducible assumption)|assumption)
   obtain ⟨ad357,e357,f_t⟩:=Kd.b_z b_U.out x21_1 p357 q357
   cases e357
   replace f_t:=(HB.out.cell (World.block_lt_of_cell? w _ f_t)).trans f_t
   replace p357:=eq_true p357
   replace q357:=eq_true q357
   go_wp2_with (first|((with_reducible refine b_a (b:=.append) (xs:=#[.tmp 25,.tmp 28]) rfl ?_);at_builtin;refine Kd.d_p (Kd.int .u8) (w0:=w) w.heap.size rfl (.tmp 25) (.tmp 28) 51 5 (.int .u8 0) 1 rfl Try.underlying51 info5 rfl (by decide) (by omega) u5 x5_1 ((rd l0_0 x21_1) % 256) [.int .u8 ((rd l0_0 x21_1) % 256)] (fun _ => True) (fun _ => False) rfl rfl ?aP (fun _ hk => hk.elim) ?aF ?aO ?aB ?aS ?aL ?_;(case aP => exact rfl);(case aB => exact (by repeat (first|(with_reducible first|exact HB.out|apply a_d|apply a_b|apply a_e|refine a_c ?_ d_9.out)|exact HB.out)));(case aF => exact (fun _ _ => trivial));(case aO => exact (rup_ HO_5.out));(case aS => exact (a_j (by repeat (first|(with_reducible first|exact HB.out|apply a_d|apply a_b|apply a_e|refine a_c ?_ d_9.out)|exact HB.out))));(case aL => have:=LMc14.out;omega);intro v359 w15 ho hb hg hat;rw [← Ny358.out] at ho;have j_C:=a_a.mk (ho);replace c_w:=a_a.mk (b_q (g:=d_8) (o:=.cells #[.slice (some ad357) l0_0.length c0_0] 26 (0,0)) (bup_ c_w.out) hg (Kd.R_ne HO_5.out c_w.out (by decide)));replace HB:=a_a.mk (hb);clear HO_5 ho hb hg hat))
   go_roundg k1
   case measure => have:=HK1.out;omega
   case rel => exact ⟨(y358),(wrap64 (x21_1 + 1)),(by first|rfl|(simp;done)|(simp [*];done)),H',⟨by have:=HK1.out;omega⟩,⟨by (with_reducible repeat (first|apply Kd.a_J|apply Kd.a_I|apply Kd.a_M));exact j_C.out⟩,⟨by (with_reducible repeat (first|refine a_n ?_ _|refine a_q ?_|refine a_s ?_ _));exact c_w.out⟩,⟨by repeat (first|(with_reducible first|exact HB.out|apply a_d|apply a_b|apply a_e|refine a_c ?_ d_9.out)|exact HB.out)⟩⟩
end Go.Proofs.Ytkhbffjfclepfaa.Q
end
section
namespace Go.Proofs.Ytkhbffjfclepfaa.Q
open Go.RowKit Go.Proofs.YtkhbffjfclepfaaW.PrintWords Go.Proofs.YtkhbffjfclepfaaW.PrintLast Go.Proofs.YtkhbffjfclepfaaW.PrintMore
set_option linter.unusedVariables false
set_option linter.unusedSimpArgs false
def bytes_Equal.f (l0 : List Int) (l1 : List Int) : Option (Bool):=some ((strOfNums l0).toList == (strOfNums l1).toList)
set_option maxHeartbeats 8000000 in
set_option maxRecDepth 100000 in
theorem bytes_Equal.calls (A0 : Option Addr) (c0 : Nat) (l0 : List Int) (A1 : Option Addr) (c1 : Nat) (l1 : List Int) (r : Bool) (w : World) (hr0 : Kd.C (Kd.int .u8) w A0 l0.length l0) (hc0 : l0.length ≤ c0) (hr1 : Kd.C (Kd.int .u8) w A1 l1.length l1) (hc1 : l1.length ≤ c1) (h : bytes_Equal.f l0 l1 = some r) :
 Calls Try.prog 25 #[.slice A0 l0.length c0,.slice A1 l1.length c1] w fun e w' => e = .returned (.bool r) ∧ a_Y w w':=by
 have HR0:=a_a.mk hr0
 have HC0:=a_a.mk hc0
 clear hr0 hc0
 have HR1:=a_a.mk hr1
 have HC1:=a_a.mk hc1
 clear hr1 hc1
 have H : (some ((strOfNums l0).toList == (strOfNums l1).toList)) = some r:=h
 clear h
 obtain rfl:=Option.some.inj H
 have hcv3:=Kd.f_O (P:=Try.prog) (A:=A0) (c:=c0) Try.underlying51 Try.underlying5 Try.underlying9 HR0.out
 have hcv4:=Kd.f_O (P:=Try.prog) (A:=A1) (c:=c1) Try.underlying51 Try.underlying5 Try.underlying9 HR1.out
 go_enter Try.func25,Try.ntmps25
 go_wp2
 go_ret
 exact ⟨by first|rfl|(simp;done)|(simp [*];done),by repeat (first|exact a_Y.refl _|apply a_Y.step)⟩
end Go.Proofs.Ytkhbffjfclepfaa.Q
end
section
namespace Go.Proofs.Ytkhbffjfclepfaa.Q
open Go.RowKit Go.Proofs.YtkhbffjfclepfaaW.PrintWords Go.Proofs.YtkhbffjfclepfaaW.PrintLast Go.Proofs.YtkhbffjfclepfaaW.PrintMore
set_option linter.unusedVariables false
set_option linter.unusedSimpArgs false
def a_t.l0 : Nat → List Int → List Int → Int → Int → Option (List Int)
 | 0,_,_,_,_ => none
 | k + 1,x3,x12,x13,x14 => if x14 < x13 then (if 0 ≤ x14 then (if x14 < (x12.length : Int) then (if x3.length < 140737488355328 then (a_t.l0 k (x3 ++ [(rd x12 x14) % 256]) x12 x13 (wrap64 (x14 + 1))) else (none)) else (none)) else (none)) else (some x3)
def a_t.f (k : Nat) (l0_0 : List Int) : Option (List Int):=a_t.l0 k (([((l0_0.length : Int)) % 256] : List Int)) l0_0 (l0_0.length : Int) 0
theorem a_t.b_x : ∀ k,(∀ y0 y1 y2 y3,LeO (a_t.l0 k y0 y1 y2 y3) (a_t.l0 (k + 1) y0 y1 y2 y3))
 | 0 => fun _ _ _ _ r h => by simp [a_t.l0] at h
 | k + 1 => by
  have ih0:=a_t.b_x k
  ·intro y0 y1 y2 y3
   unfold a_t.l0
   repeat' first
   | (with_reducible exact ih0 _ _ _ _)
   | (with_reducible exact LeO.refl _)
   | (with_reducible exact LeO.none _)
   | (with_reducible refine LeO.ite ?_ ?_)
   | (with_reducible refine LeO.bind ?_ (fun _ => ?_))
   | exact ih0 _ _ _ _
   | exact LeO.none _
   | refine LeO.ite ?_ ?_
   | refine LeO.bind ?_ (fun _ => ?_)
theorem a_t.mono : ∀ a0 k,LeO (a_t.f k a0) (a_t.f (k + 1) a0):=by
 intro a0 k
 have ih0:=a_t.b_x k
 unfold a_t.f
 repeat' first
  | (with_reducible exact ih0 _ _ _ _)
  | (with_reducible exact LeO.refl _)
  | (with_reducible exact LeO.none _)
  | (with_reducible refine LeO.ite ?_ ?_)
  | (with_reducible refine LeO.bind ?_ (fun _ => ?_))
  | exact ih0 _ _ _ _
  | exact LeO.none _
  | refine LeO.ite ?_ ?_
  | refine LeO.bind ?_ (fun _ => ?_)
set_option maxHeartbeats 8000000 in
set_option maxRecDepth 100000 in
theorem a_t.calls (k : Nat) (A0_0 : Option Addr) (c0_0 : Nat) (l0_0 : List Int) (r : List Int) (w : World) (hr0_0 : Kd.C (Kd.int .u32) w A0_0 l0_0.length l0_0) (hc0_0 : l0_0.length ≤ c0_0) (h : a_t.f k l0_0 = some r) :
 Calls Try.prog 26 #[.agg #[.slice A0_0 l0_0.length c0_0]] w fun e w' => ∃ v0_ : Value,e = .returned (v0_) ∧ Kd.R (Kd.int .u8) 5 w' w.heap.size (fun _ => True) v0_ r ∧ Below w.heap.size w w':=by
 have hu26:=Try.underlying26
 have b_U:=a_a.mk hr0_0
 have c_K:=a_a.mk hc0_0
 clear hr0_0 hc0_0
 have HB:=a_a.mk (Below.refl w.heap.size w)
 have H : (a_t.l0 k (([((l0_0.length : Int)) % 256] : List Int)) l0_0 (l0_0.length : Int) 0) = some r:=h
 clear h
 obtain ⟨y362,hy362⟩ : ∃ y_ : List Int,y_ = (([((l0_0.length : Int)) % 256] : List Int)):=⟨_,rfl⟩
 replace H : (a_t.l0 k y362 l0_0 (l0_0.length : Int) 0) = some r:=by first|(rw [hy362];with_reducible exact H)|(have H2_:=(Option.bind_some _ _).symm.trans H;rw [hy362];with_reducible exact H2_)|(have H2_:=(Option.bind_some _ _).symm.trans H;with_reducible exact H2_)|with_reducible exact H|(rw [hy362];exact H)|exact H
 have Ny362:=a_a.mk hy362
 clear hy362
 have H':=a_a.mk H
 clear H
 go_enter Try.func26,Try.ntmps26
 go_wp2_with (first|((with_reducible refine a_w (N:=1) rfl ?_);refine a_v ?hg (N:=1) ?hd (cs:=#[.slice A0_0 l0_0.length c0_0]) (t:=26) ?hr ?_;(case hd => rfl);(case hg => rfl);(case hr => first|(go_simp;done)|(go_simp;rfl));intro f_5 hg w2 hbox hb;have d_N:=a_a.mk (hbox);have k_F:=a_a.mk ((by rw [hg];exact (a_j (lup_ HB.out)) : w.heap.size ≤ f_5));have f_u:=a_a.mk ((by rw [hg];exact (a_j (lup_ HB.out)) : w.heap.size ≤ f_5));replace HB:=a_a.mk (a_i (lup_ HB.out) hb);clear hb hbox hg;have i_O : w2.cell? ⟨f_5,0,none⟩ = some (.slice A0_0 l0_0.length c0_0):=(a_m d_N.out 0).trans rfl;have i_P:=a_k d_N.out 0)|((with_reducible refine a_w (N:=10) rfl ?_);refine Kd.c_T (Kd.int .u8) _ 5 ?hg (N:=10) ?hd (xs:=([((l0_0.length : Int)) % 256] : List Int)) (inner:=[.int .u8 (((l0_0.length : Int)) % 256)]) (ok:=fun _ => True) (okp:=fun _ => True) ?hr ?hp (fun _ hk => hk) trivial (Below.refl _ _) (Nat.le_refl _) (by simp) ?_;(case hd => rfl);(case hg => rfl);(case hr => first|(go_simp;done)|(go_simp;rfl));(case hp => exact (Reps.one (show Kd.M (Kd.int .u8) _ _ _ (((l0_0.length : Int)) % 256) [.int .u8 (((l0_0.length : Int)) % 256)] from rfl) (Reps.none _ _)));intro v363 w4 ho5 hb hg_ hnew_;clear hg_ hnew_;(first|rw [← Ny362.out] at ho5|(simp only [Int.reduceToNat] at ho5;rw [← Ny362.out] at ho5));have j_D:=a_a.mk (Kd.a_S ho5 (a_j (by repeat (first|(with_reducible first|exact HB.out|apply a_d|apply a_b|apply a_e|refine a_c ?_ f_u.out)|exact HB.out))));replace d_N:=a_a.mk (a_f (bup_ d_N.out) hb);replace HB:=a_a.mk (a_i (by repeat (first|(with_reducible first|exact HB.out|apply a_d|apply a_b|apply a_e|refine a_c ?_ f_u.out)|exact HB.out)) hb);clear hb ho5;have d_t : w4.cell? ⟨f_5,0,none⟩ = some (.slice A0_0 l0_0.length c0_0):=(a_m d_N.out 0).trans rfl;have d_u:=a_k d_N.out 0))
 go_loopg [3,14] k (fun kq v3 v14 w' => ∃ (x3_1 : List Int) (x14_1 : Int),v14 = .int .i64 x14_1 ∧ a_a (a_t.l0 kq x3_1 l0_0 (l0_0.length : Int) x14_1 = some r) ∧ a_a (kq ≤ k) ∧ a_a (Kd.R (Kd.int .u8) 5 w' w.heap.size (fun _ => True) v3 x3_1) ∧ a_a (w'.heap[f_5]? = some (.cells #[(.slice A0_0 l0_0.length c0_0)] 26 (0,0))) ∧ a_a (Below w.heap.size w w'))
 case atStart => exact ⟨(y362),(0),(by first|rfl|(simp;done)|(simp [*];done)),H',⟨Nat.le_refl _⟩,⟨by (with_reducible repeat (first|apply Kd.a_J|apply Kd.a_I|apply Kd.a_M));exact j_D.out⟩,⟨by (with_reducible repeat (first|refine a_n ?_ _|refine a_q ?_|refine a_s ?_ _));exact d_N.out⟩,⟨by repeat (first|(with_reducible first|exact HB.out|apply a_d|apply a_b|apply a_e|refine a_c ?_ f_u.out)|exact HB.out)⟩⟩
 case round =>
  clear H'
  try clear c2
  try clear p2
  try clear i_O
  try clear d_t
  try clear i_P
  try clear d_u
  obtain ⟨x3_1,x14_1,rfl,HA,HK1,HO_3,d_N,HB⟩:=hrel
  cases gk with
  | zero => exact absurd HA.out (by simp [a_t.l0])
  | succ k1 =>
   have H:=HA.out
   clear HA
   simp only [a_t.l0] at H
   by_cases c7 : x14_1 < (l0_0.length : Int)
   rotate_left
   ·rw [if_neg c7] at H
    have c7b0 : decide (x14_1 < (l0_0.length : Int)) = false:=decide_eq_false c7
    clear c7
    obtain rfl:=Option.some.inj H
    go_wp2
    go_ret
    exact ⟨_,by first|rfl|(simp [a_z,a_y] <;> rfl)|(simp [*, a_z,a_y] <;> rfl),by (with_reducible repeat (first|apply Kd.a_J|apply Kd.a_I|apply Kd.a_M));exact HO_3.out,by repeat (first|(with_reducible first|exact HB.out|apply a_d|apply a_b|apply a_e|refine a_c ?_ f_u.out)|exact HB.out)⟩
   rw [if_pos c7] at H
   have c7b0 : decide (x14_1 < (l0_0.length : Int)) = true:=decide_eq_true c7
   clear c7
   by_cases c8 : 0 ≤ x14_1
   rotate_left
   ·rw [if_neg c8] at H
    exact absurd H (by simp)
   rw [if_pos c8] at H
   have c8b0 : decide (0 ≤ x14_1) = true:=decide_eq_true c8
   clear c8
   by_cases c9 : x14_1 < (l0_0.length : Int)
   rotate_left
   ·rw [if_neg c9] at H
    exact absurd H (by simp)
   rw [if_pos c9] at H
   have c9b0 : decide (x14_1 < (l0_0.length : Int)) = true:=decide_eq_true c9
   clear c9
   by_cases c10 : x3_1.length < 140737488355328
   rotate_left
   ·rw [if_neg c10] at H
    exact absurd H (by simp)
   rw [if_pos c10] at H
   have LMc10:=a_a.mk c10
   clear c10
   obtain ⟨y366,hy366⟩ : ∃ y_ : List Int,y_ = (x3_1 ++ [(rd l0_0 x14_1) % 256]):=⟨_,rfl⟩
   replace H : (a_t.l0 k1 y366 l0_0 (l0_0.length : Int) (wrap64 (x14_1 + 1))) = some r:=by first|(rw [hy366];with_reducible exact H)|(have H2_:=(Option.bind_some _ _).symm.trans H;rw [hy366];with_reducible exact H2_)|(have H2_:=(Option.bind_some _ _).symm.trans H;with_reducible exact H2_)|with_reducible exact H|(rw [hy366];exact H)|exact H
   have Ny366:=a_a.mk hy366
   clear hy366
   have H':=a_a.mk H
   clear H
   have p365 : 0 ≤ (x14_1 : Int):=of_decide_eq_true (by first|(with_reducible assumption)|assumption)
   have q365 : x14_1 < (l0_0.length : Int):=of_decide_eq_true (by first|(with_reducible assumption)|assumption)
   obtain ⟨ad365,e365,f_v⟩:=Kd.b_z b_U.out x14_1 p365 q365
   cases e365
   replace f_v:=(HB.out.cell (World.block_lt_of_cell? w _ f_v)).trans f_v
   replace p365:=eq_true p365
   replace q365:=eq_true q365
   go_wp2_with (first|((with_reducible refine b_a (b:=.append) (xs:=#[.tmp 18,.tmp 21]) rfl ?_);at_builtin;refine Kd.d_p (Kd.int .u8) (w0:=w) w.heap.size rfl (.tmp 18) (.tmp 21) 51 5 (.int .u8 0) 1 rfl Try.underlying51 info5 rfl (by decide) (by omega) u3 x3_1 ((rd l0_0 x14_1) % 256) [.int .u8 ((rd l0_0 x14_1) % 256)] (fun _ => True) (fun _ => False) rfl rfl ?aP (fun _ hk => hk.elim) ?aF ?aO ?aB ?aS ?aL ?_;(case aP => exact rfl);(case aB => exact (by repeat (first|(with_reducible first|exact HB.out|apply a_d|apply a_b|apply a_e|refine a_c ?_ f_u.out)|exact HB.out)));(case aF => exact (fun _ _ => trivial));(case aO => exact (rup_ HO_3.out));(case aS => exact (a_j (by repeat (first|(with_reducible first|exact HB.out|apply a_d|apply a_b|apply a_e|refine a_c ?_ f_u.out)|exact HB.out))));(case aL => have:=LMc10.out;omega);intro v367 w11 ho hb hg hat;rw [← Ny366.out] at ho;have j_E:=a_a.mk (ho);replace d_N:=a_a.mk (b_q (g:=f_5) (o:=.cells #[.slice (some ad365) l0_0.length c0_0] 26 (0,0)) (bup_ d_N.out) hg (Kd.R_ne HO_3.out d_N.out (by decide)));replace HB:=a_a.mk (hb);clear HO_3 ho hb hg hat))
   go_roundg k1
   case measure => have:=HK1.out;omega
   case rel => exact ⟨(y366),(wrap64 (x14_1 + 1)),(by first|rfl|(simp;done)|(simp [*];done)),H',⟨by have:=HK1.out;omega⟩,⟨by (with_reducible repeat (first|apply Kd.a_J|apply Kd.a_I|apply Kd.a_M));exact j_E.out⟩,⟨by (with_reducible repeat (first|refine a_n ?_ _|refine a_q ?_|refine a_s ?_ _));exact d_N.out⟩,⟨by repeat (first|(with_reducible first|exact HB.out|apply a_d|apply a_b|apply a_e|refine a_c ?_ f_u.out)|exact HB.out)⟩⟩
end Go.Proofs.Ytkhbffjfclepfaa.Q
end
