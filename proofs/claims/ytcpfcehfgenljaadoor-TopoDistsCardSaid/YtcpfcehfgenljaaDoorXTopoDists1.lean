/- Part 2 of 6 of what the row of TopoDists stands on: contracts over the given program's functions, the plain law, the row; no condition beyond those that each theorem states. -/
import Derived.Test.YtcpfcehfgenljaaDoorXTopoDists0
import Derived.Test.YtcpfcehfgenljaaDoorProg
import Derived.Shelf.Abstract
import Derived.Laws.EntriesVeiled
import Derived.WalkSpells
import Derived.Shelf.Spec.TrailingZeros
import Derived.Test.YtcpfcehfgenljaaDoorRows
import Derived.Deep.Slices
import Derived.ChangeArms
import Derived.DataReads
import Derived.ProofKit
import Derived.OpenShut
import Derived.ChangeOld
import Derived.SizedLaws
import Derived.Shelf.AbstractIn
import Derived.RangeFuncNested
import Derived.RangeFuncBound
import Derived.RangeFuncBox
import Derived.RangeFuncCalls
import Derived.RangeFuncLeaves
import Derived.Shelf.RegionOpen
import Derived.OwnWalkIn
import Derived.TacticsInMore
import Derived.LoopNIn
import Derived.LoopIn
section
namespace Go.Proofs.YtcpfcehfgenljaaDoor
open Go.RowKit Go.Proofs.YtcpfcehfgenljaaDoorW.PrintWords Go.Proofs.YtcpfcehfgenljaaDoorW.PrintLast Go.Proofs.YtcpfcehfgenljaaDoorW.PrintMore
def Up_ (w W : World) : Prop:=Below w.heap.size w W
instance (priority:=low) up0_ (w : World) : Nonempty (Up_ w w):=⟨Below.refl _ _⟩
instance upA_ (w W : World) (o : Obj) [h : Nonempty (Up_ w W)] : Nonempty (Up_ w (W.alloc o)):=h.elim fun h => ⟨a_d h o⟩
instance upN_ (w W : World) (n : Nat) [h : Nonempty (Up_ w W)] : Nonempty (Up_ w (W.drewN n)):=h.elim fun h => ⟨a_c h n⟩
instance upD_ (w W : World) [h : Nonempty (Up_ w W)] : Nonempty (Up_ w W.drew):=h.elim fun h => ⟨c_V h⟩
theorem bup_ {w W : World} {g : Nat} {o : Obj} (h : w.heap[g]? = some o) [u : Nonempty (Up_ w W)] : W.heap[g]? = some o:=u.elim fun b => a_h h b
theorem rup_ {α : Type} {d : Kd α} {e : Nat} {w W : World} {base : Nat} {ok : Nat → Prop} {v : Value} {xs : List α} (h : d.R e w base ok v xs) [u : Nonempty (Up_ w W)] : d.R e W base ok v xs:=u.elim fun b => Kd.a_B h b
theorem lup_ {w0 w W : World} (h : Below w0.heap.size w0 w) [u : Nonempty (Up_ w W)] : Below w0.heap.size w0 W:=u.elim fun b => a_l h b
abbrev T_ : Bool:=true
abbrev F_ : Bool:=false
theorem sa_ {α : Type} (l : List α) (i : Nat) (a : α) : l.toArray.setIfInBounds i a = (l.set i a).toArray:=List.setIfInBounds_toArray l i a
theorem sb_ {α : Type} (x : α) (l : List α) (a : α) : (x :: l).set 0 a = a :: l:=rfl
theorem sc_ {α : Type} (x : α) (l : List α) (i : Nat) (a : α) : (x :: l).set (i + 1) a = x :: l.set i a:=rfl
section
variable {P : Program} {ops : Array Oper} {Q : Exit → Act → World → Prop} {md : Region.Mode} {S : World → Prop} {ds : List Nat} {T : Bool × List (List Nat × List Nat)}
theorem pk_ {oi : Oper} {fuel : Nat} {l : Array Bool} {a a' : Act} {w : World} (i : Nat) (N : Option Tmp) (l' : Array Bool) (HT : a_b (rtab md ops = T)) (h : a_V P md ops Q S ds fuel l' a' w) (hi : ops[i]? = some oi:=by rfl) (hN : oi.dst = N:=by rfl) (hc : anyT T l.toList l'.toList i = true:=by kernel_rfl) (hQ : ∀ c a w,Q (.panic c) (a.put oi.dst undef) w → Q (.panic c) a w:=by exact fun _ _ _ h => h) (hg : Region.wanted oi (yielded ops a.tmps) = false:=by rfl) (ha : a.put N undef = a':=by simp only [Act.put,sa_,sb_,sc_,c_c,c_b];rfl) : a_V P md ops Q S ds (fuel + 1) l a w:=k_t l' hi hN (i_S HT.out hc) hQ (Or.inr ⟨hg,rfl⟩) ha h
theorem pt_ {oi : Oper} {fuel : Nat} {l : Array Bool} {a a' : Act} {w : World} {v : Value} (i : Nat) (N : Option Tmp) (l' : Array Bool) (HT : a_b (rtab md ops = T)) (h : a_V P md ops Q S ds fuel l' a' w) (hi : ops[i]? = some oi:=by rfl) (hN : oi.dst = N:=by rfl) (hc : anyT T l.toList l'.toList i = true:=by kernel_rfl) (hQ : ∀ c a w,Q (.panic c) (a.put oi.dst v) w → Q (.panic c) a w:=by exact fun _ _ _ h => h) (hg : Region.wanted oi (yielded ops a.tmps) = true:=by rfl) (hv : ∀ w',(execOp a.eval oi).run P w' = .ok (.value v) w':=by intro w';go_simp;with_reducible rfl) (ha : a.put N v = a':=by simp only [Act.put,sa_,sb_,sc_,c_c,c_b];rfl) : a_V P md ops Q S ds (fuel + 1) l a w:=k_t l' hi hN (i_S HT.out hc) hQ (Or.inl ⟨hg,hv⟩) ha h
end
abbrev Z0_ : Array Bool:=#[T_,T_,T_,F_,T_,T_,F_,F_]
abbrev Z1_ : Array Bool:=#[T_,T_,T_,T_,T_,T_,F_,F_]
abbrev Z2_ : Array Bool:=#[T_,T_,T_,T_,T_,T_,T_,T_,T_,T_,T_,T_,F_,F_]
end Go.Proofs.YtcpfcehfgenljaaDoor
end
section
namespace Go.Proofs.YtcpfcehfgenljaaDoor.Q
open Go.RowKit Go.Proofs.YtcpfcehfgenljaaDoorW.PrintWords Go.Proofs.YtcpfcehfgenljaaDoorW.PrintLast Go.Proofs.YtcpfcehfgenljaaDoorW.PrintMore
set_option linter.unusedVariables false
set_option linter.unusedSimpArgs false
def errW : Option Int → Value
 | none => .nilIface
 | some c => .iface 0 (.int .i64 c)
theorem a_t : errW none = .nilIface:=rfl
theorem a_u (c : Int) : errW (some c) = .iface 0 (.int .i64 c):=rfl
theorem info3 : (Tryd.prog.info? 3).map (fun i => (i.zero,i.size,i.bytes)) = some (some (.int .i64 0),1,8):=by kernel_rfl
theorem h_V : (Tryd.prog.info? 56).map (fun i => (i.zero,i.size,i.bytes)) = some (some (.agg #[(.int .i64 0),(.int .i64 0)]),2,16):=by kernel_rfl
structure S56 where
 f0 : Int
 f1 : Int
def z56 : S56:=⟨(0 : Int),(0 : Int)⟩
def k56 : Kd S56:=Kd.iso (Kd.pair (Kd.int .i64) (Kd.int .i64)) (fun x : S56 => (x.f0,x.f1))
theorem i_G {w : World} {x : S56} {cs : List Value} (h : k56.K w x cs) : cs = [.int .i64 x.f0,.int .i64 x.f1]:=by
 obtain ⟨_,_,rfl,rfl,rfl⟩:=h
 exact rfl
theorem j_K (w : World) (base : Nat) (ok : Nat → Prop) (x : S56)  : k56.M w base ok x [.int .i64 x.f0,.int .i64 x.f1]:=⟨[.int .i64 x.f0],[.int .i64 x.f1],rfl,rfl,rfl⟩
def a_x (xs : List S56) (i : Int) : S56:=xs.getD i.toNat z56
theorem b_r {w : World} {A : Option Addr} {n : Nat} {xs : List S56} (h : Kd.C k56 w A n xs) (i : Int) (h0 : 0 ≤ i) (h1 : i < n) : ∃ ad , A = some ad ∧ w.cell? (ad.add (i.toNat * 2)) = some (.int .i64 (a_x xs i).f0) ∧ w.cell? ⟨(ad.add (i.toNat * 2)).block,(ad.add (i.toNat * 2)).off + 1,none⟩ = some (.int .i64 (a_x xs i).f1):=by
 obtain ⟨ad,c,e,_,hK,hc0⟩:=Kd.j_V h z56 i h0 h1
 have hc : ∀ j u,c[j]? = some u → w.cell? (ad.add (i.toNat * 2 + j)) = some u:=hc0
 obtain rfl:=i_G hK
 exact ⟨ad,e,hc 0 _ rfl,by rw [← f_q _ _ 1 (by omega)];exact hc 1 _ rfl⟩
structure S39 where
 f0 : Int
 f1 : Int
def z39 : S39:=⟨(0 : Int),(0 : Int)⟩
def k39 : Kd S39:=Kd.iso (Kd.pair (Kd.int .i64) (Kd.int .i64)) (fun x : S39 => (x.f0,x.f1))
theorem i_F {w : World} {x : S39} {cs : List Value} (h : k39.K w x cs) : cs = [.int .i64 x.f0,.int .i64 x.f1]:=by
 obtain ⟨_,_,rfl,rfl,rfl⟩:=h
 exact rfl
def a_p (xs : List S39) (i : Int) : S39:=xs.getD i.toNat z39
theorem i_T {w : World} {A : Option Addr} {n : Nat} {xs : List S39} (h : Kd.C k39 w A n xs) (i : Int) (h0 : 0 ≤ i) (h1 : i < n) : ∃ ad , A = some ad ∧ w.cell? (ad.add (i.toNat * 2)) = some (.int .i64 (a_p xs i).f0) ∧ w.cell? ⟨(ad.add (i.toNat * 2)).block,(ad.add (i.toNat * 2)).off + 1,none⟩ = some (.int .i64 (a_p xs i).f1):=by
 obtain ⟨ad,c,e,_,hK,hc0⟩:=Kd.j_V h z39 i h0 h1
 have hc : ∀ j u,c[j]? = some u → w.cell? (ad.add (i.toNat * 2 + j)) = some u:=hc0
 obtain rfl:=i_F hK
 exact ⟨ad,e,hc 0 _ rfl,by rw [← f_q _ _ 1 (by omega)];exact hc 1 _ rfl⟩
structure S57 where
 f0 : Int
 f1 : Int
 f2 : Int
def z57 : S57:=⟨(0 : Int),(0 : Int),(0 : Int)⟩
structure S24 where
 f0 : (List S56)
def z24 : S24:=⟨([] : List S56)⟩
def k24 : Kd S24:=Kd.iso (Kd.slice 56 k56) (fun x : S24 => x.f0)
theorem i_E {w : World} {x : S24} {cs : List Value} (h : k24.K w x cs) : ∃ A0 c0,cs = [.slice A0 x.f0.length c0] ∧ x.f0.length ≤ c0 ∧ k56.C w A0 x.f0.length x.f0:=by
 obtain ⟨A0,c0,rfl,l0,g0⟩:=h
 exact ⟨A0,c0,rfl,l0,g0⟩
def idxOf {α : Type} (p : α → Bool) (xs : List α) : Int:=match xs.findIdx? p with|some i => i|none => -1
theorem idxOf_hit {α : Type} {p : α → Bool} {xs : List α} {k : Nat} (hk : k < xs.length) (h : p xs[k] = true) (hb : ∀ j (hj : j < k),p (xs[j]'(by omega)) = false) : idxOf p xs = k:=by
 unfold idxOf
 have : xs.findIdx? p = some k:=by
  rw [List.findIdx?_eq_some_iff_getElem]
  exact ⟨hk,h,fun j hj => by simp [hb j hj]⟩
 rw [this]
theorem idxOf_miss {α : Type} {p : α → Bool} {xs : List α} (hb : ∀ j (hj : j < xs.length),p xs[j] = false) : idxOf p xs = -1:=by
 unfold idxOf
 have : xs.findIdx? p = none:=by
  rw [List.findIdx?_eq_none_iff]
  intro x hx
  obtain ⟨j,hj,rfl⟩:=List.getElem_of_mem hx
  exact hb j hj
 rw [this]
theorem f_y {α : Type} (p : α → Bool) (xs : List α) : decide (0 ≤ idxOf p xs) = xs.any p:=by
 unfold idxOf
 cases h : xs.findIdx? p with
 | none =>
  rw [List.findIdx?_eq_none_iff] at h
  have : xs.any p = false:=List.any_eq_false.2 fun x hx => by simp [h x hx]
  rw [this];rfl
 | some i =>
  rw [List.findIdx?_eq_some_iff_getElem] at h
  obtain ⟨hi,hp,_⟩:=h
  have : xs.any p = true:=List.any_eq_true.2 ⟨_,List.getElem_mem hi,hp⟩
  rw [this];simp
def b_W (w : World) : Prop:=TabAt 0 Lib.deBruijn32tab w
theorem b_W.below {w W : World} (h : b_W w) (hb : Below w.heap.size w W) : b_W W:=fun j hj => (hb.cell (p:=⟨0,j,none⟩) (World.block_lt_of_cell? w _ (h j hj))).trans (h j hj)
def d_w (m : Nat) : List Nat:=(List.range 8).filter fun i => m.testBit i
theorem g_3 : ∀ m,m < 256 → m ≠ 0 → d_w m = Lib.ctz 32 m :: d_w (m &&& (m - 1)):=by decide +kernel
theorem f_t (m : Nat) : (d_w m).length ≤ 8:=by unfold d_w;exact Nat.le_trans (List.length_filter_le _ _) (by simp)
theorem g_4 : d_w 0 = []:=by decide
end Go.Proofs.YtcpfcehfgenljaaDoor.Q
end
section
namespace Go.Proofs.YtcpfcehfgenljaaDoor.Q
open Go.RowKit Go.Proofs.YtcpfcehfgenljaaDoorW.PrintWords Go.Proofs.YtcpfcehfgenljaaDoorW.PrintLast Go.Proofs.YtcpfcehfgenljaaDoorW.PrintMore
open Go.ChangeShapes Go.WideShapes Go.ChangeAt
set_option linter.unusedVariables false
set_option linter.unusedSimpArgs false
structure c_7 (P : Program) (t : TypeId) {α : Type} (d : Kd α) (wf : α → Prop) : Prop where
 cells : P.cellsOf t = d.sz
 open_ : ∀ {H : Type} {enc : TypeId × Value → H} {w : World} {base : Nat} {spare : Nat → Bool} {held : Bool} {fuel : Nat} {cs : List Value} {x : DataW H × List MemPlace},
  DataW.trod enc P w base spare held fuel t cs = some x → ∃ v,d.K w v cs ∧ wf v
theorem c_7.int {P : Program} {t : TypeId} {k : IntKind} (ht : P.underlying t = some (.int k)) (hc : P.cellsOf t = 1) : c_7 P t (Kd.int k) (fun n => (Lit.int k n).wf = true) :=
 ⟨hc,fun {H enc w base spare held fuel cs x} h => by
  cases fuel with
  | zero => simp [DataW.trod] at h
  | succ n =>
   unfold DataW.trod at h
   rw [ht] at h
   split at h <;> simp_all
   exact ⟨_,rfl,h.1.2⟩⟩
theorem c_7.bool {P : Program} {t : TypeId} (ht : P.underlying t = some .bool) (hc : P.cellsOf t = 1) : c_7 P t Kd.bool (fun _ => True) :=
 ⟨hc,fun {H enc w base spare held fuel cs x} h => by
  cases fuel with
  | zero => simp [DataW.trod] at h
  | succ n =>
   unfold DataW.trod at h
   rw [ht] at h
   split at h
   all_goals first|exact ⟨_,rfl,trivial⟩|simp_all⟩
theorem h_e {α : Type} [Inhabited α] (m : Nat) (p : Nat → α → Prop) (h : ∀ i,i < m → ∃ v,p i v) : ∃ f : Nat → α, ∀ i,i < m → p i (f i):=by
 classical
 exact ⟨fun i => if hi : ∃ v,p i v then hi.choose else default,fun i hi => by
  have hx:=h i hi
  simp only [hx,dif_pos]
  exact hx.choose_spec⟩
theorem c_7.slice {P : Program} {t e : TypeId} {α : Type} {d : Kd α} {wf : α → Prop} [Inhabited α] (ht : P.underlying t = some (.slice e)) (hc : P.cellsOf t = 1) (he : c_7 P e d wf) :
 c_7 P t (Kd.slice e d) (fun l => l.length ≤ maxLen ∧ ∀ x ∈ l,wf x) :=
 ⟨hc,fun {H enc w base spare held fuel cs x} h => by
  rcases Go.Deep.open_slice ht h with ⟨rfl,_⟩ | ⟨a,len,cap,m,n,D,Pl,rfl,hb,hl,hm,hmm,_,hx⟩
  ·exact ⟨[],⟨none,0,rfl,Nat.le_refl _,⟨rfl,by simp,fun h => absurd h (Nat.lt_irrefl 0)⟩⟩,by simp,by simp⟩
  ·have hlm : len ≤ m:=by rw [hmm];split <;> omega
   obtain ⟨f,hf⟩:=h_e (α:=α) m (fun i v => ∃ cs',w.cells? base (a.add (i * P.cellsOf e)) (P.cellsOf e) = some cs' ∧ d.K w v cs' ∧ wf v) (fun i hi => by
    obtain ⟨cs',h1,h2⟩:=hx i hi
    obtain ⟨v,h3,h4⟩:=he.open_ h2
    exact ⟨v,cs',h1,h3,h4⟩)
   have hml : maxLen = 9223372036854775807:=rfl
   refine ⟨(List.range len).map f,⟨some a,cap,by simp,by simpa using hl,⟨by simp,by simp;omega,fun _ => ⟨a,rfl,fun j p hj => ?_⟩⟩⟩,by simp;omega,fun v hv => ?_⟩
   ·rw [List.getElem?_map] at hj
    obtain ⟨i,hi,rfl⟩:=Option.map_eq_some_iff.1 hj
    have hij : j < len:=by
     rcases Nat.lt_or_ge j len with h|h
     ·exact h
     ·rw [List.getElem?_eq_none (by simpa using h)] at hi;cases hi
    rw [List.getElem?_range hij] at hi
    injection hi with hi
    subst hi
    obtain ⟨cs',h1,h2,h3⟩:=hf j (by omega)
    obtain ⟨_,h4,h5⟩:=World.cells?_some h1
    rw [he.cells] at h4 h5 h1
    refine ⟨cs',h4,h2,fun i u hu => ?_⟩
    have hil : i < d.sz:=by
     rw [← h4]
     exact (List.getElem?_eq_some_iff.1 hu).1
    rw [show j * d.sz + i = j * d.sz + i from rfl, ← add_add,h5 i hil]
    exact hu
   ·obtain ⟨j,hj,rfl⟩:=List.mem_map.1 hv
    obtain ⟨_,_,_,h3⟩:=hf j (by have:=List.mem_range.1 hj;omega)
    exact h3⟩
theorem d_s {P : Program} {H : Type} {enc : TypeId × Value → H} {w : World} {base : Nat} {spare : Nat → Bool} {held : Bool} {fuel : Nat} {t : TypeId} {cs : List Value} {x : DataW H × List MemPlace} {fs : Array Field}
 (ht : P.underlying t = some (.struct fs)) (h : DataW.trod enc P w base spare held fuel t cs = some x) (i : Nat) {f : Field} (hf : fs[i]? = some f) {α : Type} {d : Kd α} {wf : α → Prop} (ho : c_7 P f.type d wf) :
 ∃ v,d.K w v ((cs.drop f.offset).take d.sz) ∧ wf v:=by
 obtain ⟨xs,n,_,_,_,hl,hx⟩:=DataW.trod_struct ht h
 have h1:=hx i f hf
 have hi : i < xs.length:=by rw [hl];exact (Array.getElem?_eq_some_iff.1 hf).1
 rw [List.getElem?_eq_getElem hi,ho.cells] at h1
 exact ho.open_ h1
theorem d_3 {P : Program} {H : Type} {enc : TypeId × Value → H} {w : World} {base : Nat} {spare : Nat → Bool} {held : Bool} {fuel : Nat} {t : TypeId} {cs : List Value} {x : DataW H × List MemPlace} {fs : Array Field}
 (ht : P.underlying t = some (.struct fs)) (h : DataW.trod enc P w base spare held fuel t cs = some x) : cs.length = P.cellsOf t:=by
 obtain ⟨xs,n,_,_,hl,_⟩:=DataW.trod_struct ht h
 exact hl
theorem e_i {P : Program} {H : Type} {enc : TypeId × Value → H} {w : World} {base : Nat} {spare : Nat → Bool} {held : Bool} {fuel : Nat} {t : TypeId} {cs : List Value} {x : DataW H × List MemPlace} {n : Nat} {e : TypeId}
 (ht : P.underlying t = some (.array n e)) (h : DataW.trod enc P w base spare held fuel t cs = some x) (i : Nat) (hi : i < n) {α : Type} {d : Kd α} {wf : α → Prop} (ho : c_7 P e d wf) :
 ∃ v,d.K w v ((cs.drop (i * d.sz)).take d.sz) ∧ wf v:=by
 obtain ⟨xs,m,_,_,_,hl,hx⟩:=DataW.trod_array ht h
 have h1:=hx i hi
 have hi' : i < xs.length:=by omega
 rw [List.getElem?_eq_getElem hi',ho.cells] at h1
 exact ho.open_ h1
theorem f_L {P : Program} {H : Type} {enc : TypeId × Value → H} {w : World} {base : Nat} {spare : Nat → Bool} {held : Bool} {fuel : Nat} {t : TypeId} {cs : List Value} {x : DataW H × List MemPlace} {n : Nat} {e : TypeId}
 (ht : P.underlying t = some (.array n e)) (h : DataW.trod enc P w base spare held fuel t cs = some x) : cs.length = P.cellsOf t:=by
 obtain ⟨xs,m,_,_,hl,_⟩:=DataW.trod_array ht h
 exact hl
theorem c_l {α : Type} {cs : List α} {n : Nat} (h : cs.length = n + 1) : ∃ a l,cs = a :: l ∧ l.length = n:=by
 cases cs with
 | nil => simp at h
 | cons a l => exact ⟨a,l,rfl,by simpa using h⟩
theorem toList_eq {α : Type} {cs : Array α} {l : List α} (h : cs.toList = l) : cs = l.toArray:=by rw [← h]
theorem own : ownKnob Tryd.prog.godebug = none:=by kernel_rfl
theorem laidOut : laidOutB Tryd.prog = true:=by kernel_rfl
instance : Inhabited S56:=⟨z56⟩
def wf56 (x : S56) : Prop:=(fun n => (Lit.int .i64 n).wf = true) x.f0 ∧ (fun n => (Lit.int .i64 n).wf = true) x.f1
theorem op56 : c_7 Tryd.prog 56 k56 wf56 :=
 ⟨by kernel_rfl,fun {H enc w base spare held fuel cs x} h => by
  have hl : cs.length = 2:=(d_3 Tryd.underlying56 h).trans (by kernel_rfl)
  obtain ⟨v0,h0,w0⟩:=d_s Tryd.underlying56 h 0 rfl (c_7.int Tryd.underlying3 (by kernel_rfl))
  obtain ⟨v1,h1,w1⟩:=d_s Tryd.underlying56 h 1 rfl (c_7.int Tryd.underlying3 (by kernel_rfl))
  obtain ⟨c0,l0,rfl,hm0⟩:=c_l hl
  obtain ⟨c1,l1,rfl,hm1⟩:=c_l hm0
  obtain rfl:=List.eq_nil_of_length_eq_zero hm1
  exact ⟨⟨v0,v1⟩,⟨[c0],[c1],rfl,h0,h1⟩,⟨w0,w1⟩⟩⟩
instance : Inhabited S24:=⟨z24⟩
def wf24 (x : S24) : Prop:=(fun l => l.length ≤ maxLen ∧ ∀ x ∈ l,wf56 x) x.f0
theorem op24 : c_7 Tryd.prog 24 k24 wf24 :=
 ⟨by kernel_rfl,fun {H enc w base spare held fuel cs x} h => by
  have hl : cs.length = 1:=(d_3 Tryd.underlying24 h).trans (by kernel_rfl)
  obtain ⟨v0,h0,w0⟩:=d_s Tryd.underlying24 h 0 rfl (c_7.slice Tryd.underlying22 (by kernel_rfl) op56)
  obtain ⟨c0,l0,rfl,hm0⟩:=c_l hl
  obtain rfl:=List.eq_nil_of_length_eq_zero hm0
  exact ⟨⟨v0⟩,h0,w0⟩⟩
instance : Inhabited S39:=⟨z39⟩
def wf39 (x : S39) : Prop:=(fun n => (Lit.int .i64 n).wf = true) x.f0 ∧ (fun n => (Lit.int .i64 n).wf = true) x.f1
theorem op39 : c_7 Tryd.prog 39 k39 wf39 :=
 ⟨by kernel_rfl,fun {H enc w base spare held fuel cs x} h => by
  have hl : cs.length = 2:=(f_L Tryd.underlying39 h).trans (by kernel_rfl)
  obtain ⟨v0,h0,w0⟩:=e_i Tryd.underlying39 h 0 (by decide) (c_7.int Tryd.underlying3 (by kernel_rfl))
  obtain ⟨v1,h1,w1⟩:=e_i Tryd.underlying39 h 1 (by decide) (c_7.int Tryd.underlying3 (by kernel_rfl))
  obtain ⟨c0,l0,rfl,hm0⟩:=c_l hl
  obtain ⟨c1,l1,rfl,hm1⟩:=c_l hm0
  obtain rfl:=List.eq_nil_of_length_eq_zero hm1
  exact ⟨⟨v0,v1⟩,⟨[c0],[c1],rfl,h0,h1⟩,⟨w0,w1⟩⟩⟩
instance : Inhabited S57:=⟨z57⟩
end Go.Proofs.YtcpfcehfgenljaaDoor.Q
end
section
namespace Go.Proofs.YtcpfcehfgenljaaDoor.Q
open Go.RowKit Go.Proofs.YtcpfcehfgenljaaDoorW.PrintWords Go.Proofs.YtcpfcehfgenljaaDoorW.PrintLast Go.Proofs.YtcpfcehfgenljaaDoorW.PrintMore
set_option linter.unusedVariables false
set_option linter.unusedSimpArgs false
def c_Z.f (a0_0 : Int) (a0_1 : Int) : Option (Bool):=if a0_0 < 0 then (some true) else (if a0_0 ≥ 4 then (some true) else (if a0_1 < 0 then (some true) else (some (decide (a0_1 ≥ 8)))))
set_option maxHeartbeats 8000000 in
set_option maxRecDepth 100000 in
theorem c_Z.calls (a0_0 : Int) (a0_1 : Int) (r : Bool) (w : World) (h : c_Z.f a0_0 a0_1 = some r) :
 Calls Tryd.prog 47 #[.agg #[.int .i64 a0_0,.int .i64 a0_1]] w fun e w' => e = .returned (.bool r) ∧ Below w.heap.size w w':=by
 have hu56:=Tryd.underlying56
 have HB:=a_b.mk (Below.refl w.heap.size w)
 have H : (if a0_0 < 0 then (some true) else (if a0_0 ≥ 4 then (some true) else (if a0_1 < 0 then (some true) else (some (decide (a0_1 ≥ 8)))))) = some r:=h
 clear h
 by_cases c2 : a0_0 < 0
 ·rw [if_pos c2] at H
  have c2b0 : decide (a0_0 < 0) = true:=decide_eq_true c2
  clear c2
  obtain rfl:=Option.some.inj H
  go_enter Tryd.func47,Tryd.ntmps47
  go_wp2_with (first|((with_reducible refine a_J (N:=1) rfl ?_);refine a_F ?hg (N:=1) ?hd (cs:=#[.int .i64 a0_0,.int .i64 a0_1]) (t:=56) ?hr ?_;(case hd => rfl);(case hg => rfl);(case hr => first|(go_simp;done)|(go_simp;rfl));intro d_b hg w3 hbox hb;have c_9:=a_b.mk (hbox);have i_6:=a_b.mk ((by rw [hg];exact (a_i (lup_ HB.out)) : w.heap.size ≤ d_b));have f_J:=a_b.mk ((by rw [hg];exact (a_i (lup_ HB.out)) : w.heap.size ≤ d_b));replace HB:=a_b.mk (a_l (lup_ HB.out) hb);clear hb hbox hg;have i_U : w3.cell? ⟨d_b,0,none⟩ = some (.int .i64 a0_0):=(a_k c_9.out 0).trans rfl;have o_k : w3.cell? ⟨d_b,1,none⟩ = some (.int .i64 a0_1):=(a_k c_9.out 1).trans rfl;have i_V:=a_g c_9.out 0;have o_n:=a_g c_9.out 1))
  go_ret
  exact ⟨by first|rfl|(simp [a_t,a_u] <;> rfl)|(simp [*, a_t,a_u] <;> rfl),by repeat (first|(with_reducible first|exact HB.out|apply a_d|apply a_c|apply a_e|refine a_a ?_ f_J.out)|exact HB.out)⟩
 rw [if_neg c2] at H
 have c2b0 : decide (a0_0 < 0) = false:=decide_eq_false c2
 clear c2
 by_cases c5 : a0_0 ≥ 4
 ·rw [if_pos c5] at H
  have c5b0 : decide (4 ≤ a0_0) = true:=decide_eq_true c5
  clear c5
  obtain rfl:=Option.some.inj H
  go_enter Tryd.func47,Tryd.ntmps47
  go_wp2_with (first|((with_reducible refine a_J (N:=1) rfl ?_);refine a_F ?hg (N:=1) ?hd (cs:=#[.int .i64 a0_0,.int .i64 a0_1]) (t:=56) ?hr ?_;(case hd => rfl);(case hg => rfl);(case hr => first|(go_simp;done)|(go_simp;rfl));intro d_b hg w6 hbox hb;have c_9:=a_b.mk (hbox);have i_6:=a_b.mk ((by rw [hg];exact (a_i (lup_ HB.out)) : w.heap.size ≤ d_b));have f_J:=a_b.mk ((by rw [hg];exact (a_i (lup_ HB.out)) : w.heap.size ≤ d_b));replace HB:=a_b.mk (a_l (lup_ HB.out) hb);clear hb hbox hg;have e_K : w6.cell? ⟨d_b,0,none⟩ = some (.int .i64 a0_0):=(a_k c_9.out 0).trans rfl;have o_l : w6.cell? ⟨d_b,1,none⟩ = some (.int .i64 a0_1):=(a_k c_9.out 1).trans rfl;have e_L:=a_g c_9.out 0;have o_o:=a_g c_9.out 1))
  go_ret
  exact ⟨by first|rfl|(simp [a_t,a_u] <;> rfl)|(simp [*, a_t,a_u] <;> rfl),by repeat (first|(with_reducible first|exact HB.out|apply a_d|apply a_c|apply a_e|refine a_a ?_ f_J.out)|exact HB.out)⟩
 rw [if_neg c5] at H
 have c5b0 : decide (4 ≤ a0_0) = false:=decide_eq_false c5
 clear c5
 by_cases c8 : a0_1 < 0
 ·rw [if_pos c8] at H
  have c8b0 : decide (a0_1 < 0) = true:=decide_eq_true c8
  clear c8
  obtain rfl:=Option.some.inj H
  go_enter Tryd.func47,Tryd.ntmps47
  go_wp2_with (first|((with_reducible refine a_J (N:=1) rfl ?_);refine a_F ?hg (N:=1) ?hd (cs:=#[.int .i64 a0_0,.int .i64 a0_1]) (t:=56) ?hr ?_;(case hd => rfl);(case hg => rfl);(case hr => first|(go_simp;done)|(go_simp;rfl));intro d_b hg w9 hbox hb;have c_9:=a_b.mk (hbox);have i_6:=a_b.mk ((by rw [hg];exact (a_i (lup_ HB.out)) : w.heap.size ≤ d_b));have f_J:=a_b.mk ((by rw [hg];exact (a_i (lup_ HB.out)) : w.heap.size ≤ d_b));replace HB:=a_b.mk (a_l (lup_ HB.out) hb);clear hb hbox hg;have j_l : w9.cell? ⟨d_b,0,none⟩ = some (.int .i64 a0_0):=(a_k c_9.out 0).trans rfl;have j_m : w9.cell? ⟨d_b,1,none⟩ = some (.int .i64 a0_1):=(a_k c_9.out 1).trans rfl;have j_v:=a_g c_9.out 0;have j_w:=a_g c_9.out 1))
  go_ret
  exact ⟨by first|rfl|(simp [a_t,a_u] <;> rfl)|(simp [*, a_t,a_u] <;> rfl),by repeat (first|(with_reducible first|exact HB.out|apply a_d|apply a_c|apply a_e|refine a_a ?_ f_J.out)|exact HB.out)⟩
 rw [if_neg c8] at H
 have c8b0 : decide (a0_1 < 0) = false:=decide_eq_false c8
 clear c8
 obtain rfl:=Option.some.inj H
 go_enter Tryd.func47,Tryd.ntmps47
 go_wp2_with (first|((with_reducible refine a_J (N:=1) rfl ?_);refine a_F ?hg (N:=1) ?hd (cs:=#[.int .i64 a0_0,.int .i64 a0_1]) (t:=56) ?hr ?_;(case hd => rfl);(case hg => rfl);(case hr => first|(go_simp;done)|(go_simp;rfl));intro d_b hg w11 hbox hb;have c_9:=a_b.mk (hbox);have i_6:=a_b.mk ((by rw [hg];exact (a_i (lup_ HB.out)) : w.heap.size ≤ d_b));have f_J:=a_b.mk ((by rw [hg];exact (a_i (lup_ HB.out)) : w.heap.size ≤ d_b));replace HB:=a_b.mk (a_l (lup_ HB.out) hb);clear hb hbox hg;have e_4 : w11.cell? ⟨d_b,0,none⟩ = some (.int .i64 a0_0):=(a_k c_9.out 0).trans rfl;have n_p : w11.cell? ⟨d_b,1,none⟩ = some (.int .i64 a0_1):=(a_k c_9.out 1).trans rfl;have e_9:=a_g c_9.out 0;have n_L:=a_g c_9.out 1))
 go_ret
 exact ⟨by first|rfl|(simp [a_t,a_u] <;> rfl)|(simp [*, a_t,a_u] <;> rfl),by repeat (first|(with_reducible first|exact HB.out|apply a_d|apply a_c|apply a_e|refine a_a ?_ f_J.out)|exact HB.out)⟩
end Go.Proofs.YtcpfcehfgenljaaDoor.Q
end
section
namespace Go.Proofs.YtcpfcehfgenljaaDoor.Q
open Go.RowKit Go.Proofs.YtcpfcehfgenljaaDoorW.PrintWords Go.Proofs.YtcpfcehfgenljaaDoorW.PrintLast Go.Proofs.YtcpfcehfgenljaaDoorW.PrintMore
set_option linter.unusedVariables false
set_option linter.unusedSimpArgs false
set_option maxHeartbeats 2000000 in
theorem d_r.any (g : Nat) (lb : Array Value) (eg : ∀ args w,(callFunc g args).run Tryd.prog w = .ok (.enter g args) w) (p : S56 → Bool) (A : Option Addr) (c : Nat) (xs : List S56) (w : World)
 (hr : Kd.C k56 w A xs.length xs) (hlen : xs.length ≤ 1099511627776)
 (hp : ∀ W,Below w.heap.size w W → ∀ x ∈ xs,Calls Tryd.prog g (#[.agg #[.int .i64 x.f0,.int .i64 x.f1]] ++ lb) W fun e W' => e = .returned (.bool (p x)) ∧ Below W.heap.size W W') :
 Calls Tryd.prog 58 #[.slice A xs.length c,.func (.func g) #[] lb] w fun e w' => e = .returned (.int .i64 (idxOf p xs)) ∧ Below w.heap.size w w':=by
 have HP:=a_b.mk hp
 have HR:=a_b.mk hr
 clear hp hr
 go_enter Tryd.func58,Tryd.ntmps58
 go_wp2
 go_loopg [5,8] xs.length (fun gg _ s8 wr => ∃ kk : Nat,s8 = .int .i64 kk ∧ kk ≤ xs.length ∧ xs.length - kk ≤ gg ∧ a_b (Below w.heap.size w wr) ∧ a_b (∀ j (hj : j < kk) (hj2 : j < xs.length),p xs[j] = false))
 case atStart => exact ⟨0,rfl,Nat.zero_le _,by omega,⟨Below.refl _ _⟩,⟨fun j hj => absurd hj (Nat.not_lt_zero _)⟩⟩
 case round =>
  obtain ⟨kk,rfl,hkk,hg,HB,HN⟩:=hrel
  by_cases hlt : kk < xs.length
  rotate_left
  ·have hltz : ¬ (kk : Int) < (xs.length : Int):=by omega
   have : kk = xs.length:=by omega
   go_wp2
   go_ret
   refine ⟨?_,HB.out⟩
   rw [idxOf_miss (fun j hj => HN.out j (by omega) hj)];rfl
  have hltz : (kk : Int) < (xs.length : Int):=by omega
  obtain ⟨ad,rfl,e0,e1⟩:=b_r (Kd.b_d HR.out HB.out) (kk : Int) (by omega) (by omega)
  have hx:=List.getElem_mem hlt
  have hrd : a_x xs (kk : Int) = xs[kk]:=by unfold a_x;simp [hlt]
  rw [hrd] at e0 e1
  simp only [Int.toNat_natCast] at e0 e1
  have hcall:=HP.out _ HB.out _ hx
  generalize hy : xs[kk] = y at e0 e1 hcall hx
  have HY:=a_b.mk hy
  clear hy hx hrd
  cases hq : p y with
  | true =>
   rw [hq] at hcall
   go_wp2_with (go_at_fn g;refine hcall.mono ?_;rintro e w' ⟨rfl,hb'⟩)
   go_ret
   refine ⟨?_,HB.out.trans (hb'.mono (a_i HB.out))⟩
   rw [idxOf_hit hlt (by rw [HY.out];exact hq) (fun j hj => HN.out j hj (by omega))];rfl
  | false =>
   rw [hq] at hcall
   go_wp2_with (go_at_fn g;refine hcall.mono ?_;rintro e w' ⟨rfl,hb'⟩)
   go_roundg (xs.length - (kk + 1))
   case measure => omega
   case rel =>
    exact ⟨kk + 1,by go_num,by omega,by omega,⟨HB.out.trans (hb'.mono (a_i HB.out))⟩,⟨fun j hj hj2 => by
     by_cases e : j = kk
     ·subst e;rw [HY.out];exact hq
     exact HN.out j (by omega) hj2⟩⟩
end Go.Proofs.YtcpfcehfgenljaaDoor.Q
end
section
namespace Go.Proofs.YtcpfcehfgenljaaDoor.Q
open Go.RowKit Go.Proofs.YtcpfcehfgenljaaDoorW.PrintWords Go.Proofs.YtcpfcehfgenljaaDoorW.PrintLast Go.Proofs.YtcpfcehfgenljaaDoorW.PrintMore
set_option linter.unusedVariables false
set_option linter.unusedSimpArgs false
def e_s (x : S56) : Bool:=decide (x.f0 < 0) || decide (x.f0 ≥ 4) || decide (x.f1 < 0) || decide (x.f1 ≥ 8)
theorem f_h (x : S56) : c_Z.f x.f0 x.f1 = some (e_s x):=by
 unfold c_Z.f e_s
 by_cases h0 : x.f0 < 0
 ·rw [if_pos h0,decide_eq_true h0];rfl
 by_cases h1 : x.f0 ≥ 4
 ·rw [if_neg h0,if_pos h1,decide_eq_true h1,Bool.or_true];rfl
 by_cases h2 : x.f1 < 0
 ·rw [if_neg h0,if_neg h1,if_pos h2,decide_eq_true h2,Bool.or_true];rfl
 rw [if_neg h0,if_neg h1,if_neg h2,decide_eq_false h0,decide_eq_false h1,decide_eq_false h2];rfl
def a_2.f (l0 : List S56) : Option Bool:=if l0.length ≤ 1099511627776 then some (l0.any e_s) else none
set_option maxHeartbeats 2000000 in
theorem a_2.calls (A0 : Option Addr) (c0 : Nat) (l0 : List S56) (r : Bool) (w : World) (hr0 : Kd.C k56 w A0 l0.length l0) (hc0 : l0.length ≤ c0) (h : a_2.f l0 = some r) :
 Calls Tryd.prog 46 #[.slice A0 l0.length c0,.func (.func 47) #[] #[]] w fun e w' => e = .returned (.bool r) ∧ Below w.heap.size w w':=by
 unfold a_2.f at h
 split at h
 case isFalse => cases h
 case isTrue hl =>
 obtain rfl:=Option.some.inj h
 clear h
 rw [← f_y]
 have HR:=a_b.mk hr0
 clear hr0
 go_enter Tryd.func46,Tryd.ntmps46
 go_wp2_with (go_at_call 58;refine (d_r.any 47 #[] (d_S Tryd.func47 (by kernel_rfl) rfl) e_s A0 c0 l0 _ HR.out hl (fun W hW x _ => c_Z.calls _ _ _ W (f_h x))).mono ?_;rintro e w' ⟨rfl,hb⟩)
 go_ret
 exact ⟨rfl,hb⟩
end Go.Proofs.YtcpfcehfgenljaaDoor.Q
end
section
namespace Go.Proofs.YtcpfcehfgenljaaDoor.Q
open Go.RowKit Go.Proofs.YtcpfcehfgenljaaDoorW.PrintWords Go.Proofs.YtcpfcehfgenljaaDoorW.PrintLast Go.Proofs.YtcpfcehfgenljaaDoorW.PrintMore
set_option linter.unusedVariables false
set_option linter.unusedSimpArgs false
def b_L.f (l0_0 : List (S56)) : Option (Int):=if (l0_0.length : Int) < 1 then (some 160) else (if (l0_0.length : Int) > 8 then (some 160) else ((a_2.f l0_0).bind fun t103 => (if t103 = true then (some 160) else (some 0))))
set_option maxHeartbeats 8000000 in
set_option maxRecDepth 100000 in
theorem b_L.calls (A0_0 : Option Addr) (c0_0 : Nat) (l0_0 : List (S56)) (r : Int) (w : World) (hr0_0 : Kd.C k56 w A0_0 l0_0.length l0_0) (hc0_0 : l0_0.length ≤ c0_0) (h : b_L.f l0_0 = some r) :
 Calls Tryd.prog 28 #[.agg #[.slice A0_0 l0_0.length c0_0]] w fun e w' => e = .returned (.int .i64 r) ∧ Below w.heap.size w w':=by
 have hu24:=Tryd.underlying24
 have b_l:=a_b.mk hr0_0
 have c_h:=a_b.mk hc0_0
 clear hr0_0 hc0_0
 have HB:=a_b.mk (Below.refl w.heap.size w)
 have H : (if (l0_0.length : Int) < 1 then (some 160) else (if (l0_0.length : Int) > 8 then (some 160) else ((a_2.f l0_0).bind fun t103 => (if t103 = true then (some 160) else (some 0))))) = some r:=h
 clear h
 by_cases c2 : (l0_0.length : Int) < 1
 ·rw [if_pos c2] at H
  have c2b0 : decide ((l0_0.length : Int) < 1) = true:=decide_eq_true c2
  have c2b1 : decide (l0_0.length < 1) = true:=decide_eq_true (by omega)
  clear c2
  obtain rfl:=Option.some.inj H
  go_enter Tryd.func28,Tryd.ntmps28
  go_wp2_with (first|((with_reducible refine a_J (N:=1) rfl ?_);(try (refine b_s (by rfl) ?_;dsimp only));refine a_F ?hg (N:=1) ?hd (cs:=#[.slice A0_0 l0_0.length c0_0]) (t:=24) ?hr ?_;(case hd => rfl);(case hg => rfl);(case hr => first|(go_simp;done)|(go_simp;rfl));intro d_C hg w3 hbox hb;have d_y:=a_b.mk (hbox);have i_7:=a_b.mk ((by rw [hg];exact (a_i (lup_ HB.out)) : w.heap.size ≤ d_C));have e_U:=a_b.mk ((by rw [hg];exact (a_i (lup_ HB.out)) : w.heap.size ≤ d_C));replace HB:=a_b.mk (a_l (lup_ HB.out) hb);clear hb hbox hg;have i_U : w3.cell? ⟨d_C,0,none⟩ = some (.slice A0_0 l0_0.length c0_0):=(a_k d_y.out 0).trans rfl;have i_V:=a_g d_y.out 0))
  go_ret
  exact ⟨by first|rfl|(simp [a_t,a_u] <;> rfl)|(simp [*, a_t,a_u] <;> rfl),by repeat (first|(with_reducible first|exact HB.out|apply a_d|apply a_c|apply a_e|refine a_a ?_ e_U.out)|exact HB.out)⟩
 rw [if_neg c2] at H
 have c2b0 : decide ((l0_0.length : Int) < 1) = false:=decide_eq_false c2
 have c2b1 : decide (l0_0.length < 1) = false:=decide_eq_false (by omega)
 clear c2
 by_cases c5 : (l0_0.length : Int) > 8
 ·rw [if_pos c5] at H
  have c5b0 : decide (8 < (l0_0.length : Int)) = true:=decide_eq_true c5
  have c5b1 : decide (8 < l0_0.length) = true:=decide_eq_true (by omega)
  clear c5
  obtain rfl:=Option.some.inj H
  go_enter Tryd.func28,Tryd.ntmps28
  go_wp2_with (first|((with_reducible refine a_J (N:=1) rfl ?_);(try (refine b_s (by rfl) ?_;dsimp only));refine a_F ?hg (N:=1) ?hd (cs:=#[.slice A0_0 l0_0.length c0_0]) (t:=24) ?hr ?_;(case hd => rfl);(case hg => rfl);(case hr => first|(go_simp;done)|(go_simp;rfl));intro d_C hg w6 hbox hb;have d_y:=a_b.mk (hbox);have i_7:=a_b.mk ((by rw [hg];exact (a_i (lup_ HB.out)) : w.heap.size ≤ d_C));have e_U:=a_b.mk ((by rw [hg];exact (a_i (lup_ HB.out)) : w.heap.size ≤ d_C));replace HB:=a_b.mk (a_l (lup_ HB.out) hb);clear hb hbox hg;have e_K : w6.cell? ⟨d_C,0,none⟩ = some (.slice A0_0 l0_0.length c0_0):=(a_k d_y.out 0).trans rfl;have e_L:=a_g d_y.out 0))
  go_ret
  exact ⟨by first|rfl|(simp [a_t,a_u] <;> rfl)|(simp [*, a_t,a_u] <;> rfl),by repeat (first|(with_reducible first|exact HB.out|apply a_d|apply a_c|apply a_e|refine a_a ?_ e_U.out)|exact HB.out)⟩
 rw [if_neg c5] at H
 have c5b0 : decide (8 < (l0_0.length : Int)) = false:=decide_eq_false c5
 have c5b1 : decide (8 < l0_0.length) = false:=decide_eq_false (by omega)
 clear c5
 replace H:=Option.bind_eq_some_iff.mp H
 obtain ⟨t103,A80,H⟩:=H
 replace H : (if t103 = true then (some 160) else (some 0)) = some r:=H
 have A8:=a_b.mk A80
 clear A80
 by_cases c9 : t103 = true
 ·subst c9
  have H1 : (some 160) = some r:=by rw [if_pos rfl] at H;exact H
  clear H
  have H:=H1
  clear H1
  obtain rfl:=Option.some.inj H
  go_enter Tryd.func28,Tryd.ntmps28
  go_wp2_with (first|((with_reducible refine a_J (N:=1) rfl ?_);(try (refine b_s (by rfl) ?_;dsimp only));refine a_F ?hg (N:=1) ?hd (cs:=#[.slice A0_0 l0_0.length c0_0]) (t:=24) ?hr ?_;(case hd => rfl);(case hg => rfl);(case hr => first|(go_simp;done)|(go_simp;rfl));intro d_C hg w10 hbox hb;have d_y:=a_b.mk (hbox);have i_7:=a_b.mk ((by rw [hg];exact (a_i (lup_ HB.out)) : w.heap.size ≤ d_C));have e_U:=a_b.mk ((by rw [hg];exact (a_i (lup_ HB.out)) : w.heap.size ≤ d_C));replace HB:=a_b.mk (a_l (lup_ HB.out) hb);clear hb hbox hg;have j_n : w10.cell? ⟨d_C,0,none⟩ = some (.slice A0_0 l0_0.length c0_0):=(a_k d_y.out 0).trans rfl;have j_x:=a_g d_y.out 0)|(go_at_call 46;(with_reducible refine (a_2.calls _ _ l0_0  true _ ?side1 ?side2 A8.out).mono ?_);(case side1 => repeat (first|exact (Kd.b_d b_l.out HB.out)|(with_reducible refine Kd.a_N ?_ _)|(with_reducible refine Kd.a_O ?_ _)|(with_reducible refine Kd.a_8 ?_)));(case side2 => exact c_h.out);rintro e w12 ⟨rfl,hb⟩;replace d_y:=a_b.mk (a_h (bup_ d_y.out) hb);replace HB:=a_b.mk (a_l (by repeat (first|(with_reducible first|exact HB.out|apply a_d|apply a_c|apply a_e|refine a_a ?_ e_U.out)|exact HB.out)) hb);(try clear hb);(try clear hb2);(try clear hk);(try clear hi)))
  go_ret
  exact ⟨by first|rfl|(simp [a_t,a_u] <;> rfl)|(simp [*, a_t,a_u] <;> rfl),by repeat (first|(with_reducible first|exact HB.out|apply a_d|apply a_c|apply a_e|refine a_a ?_ e_U.out)|exact HB.out)⟩
 replace c9:=Bool.eq_false_iff.mpr c9
 subst c9
 have H1 : (some 0) = some r:=by rw [if_neg (show ¬ (false = true) by decide)] at H;exact H
 clear H
 have H:=H1
 clear H1
 obtain rfl:=Option.some.inj H
 go_enter Tryd.func28,Tryd.ntmps28
 go_wp2_with (first|((with_reducible refine a_J (N:=1) rfl ?_);(try (refine b_s (by rfl) ?_;dsimp only));refine a_F ?hg (N:=1) ?hd (cs:=#[.slice A0_0 l0_0.length c0_0]) (t:=24) ?hr ?_;(case hd => rfl);(case hg => rfl);(case hr => first|(go_simp;done)|(go_simp;rfl));intro d_C hg w13 hbox hb;have d_y:=a_b.mk (hbox);have i_7:=a_b.mk ((by rw [hg];exact (a_i (lup_ HB.out)) : w.heap.size ≤ d_C));have e_U:=a_b.mk ((by rw [hg];exact (a_i (lup_ HB.out)) : w.heap.size ≤ d_C));replace HB:=a_b.mk (a_l (lup_ HB.out) hb);clear hb hbox hg;have h_F : w13.cell? ⟨d_C,0,none⟩ = some (.slice A0_0 l0_0.length c0_0):=(a_k d_y.out 0).trans rfl;have h_N:=a_g d_y.out 0)|(go_at_call 46;(with_reducible refine (a_2.calls _ _ l0_0  false _ ?side1 ?side2 A8.out).mono ?_);(case side1 => repeat (first|exact (Kd.b_d b_l.out HB.out)|(with_reducible refine Kd.a_N ?_ _)|(with_reducible refine Kd.a_O ?_ _)|(with_reducible refine Kd.a_8 ?_)));(case side2 => exact c_h.out);rintro e w15 ⟨rfl,hb⟩;replace d_y:=a_b.mk (a_h (bup_ d_y.out) hb);replace HB:=a_b.mk (a_l (by repeat (first|(with_reducible first|exact HB.out|apply a_d|apply a_c|apply a_e|refine a_a ?_ e_U.out)|exact HB.out)) hb);(try clear hb);(try clear hb2);(try clear hk);(try clear hi)))
 go_ret
 exact ⟨by first|rfl|(simp [a_t,a_u] <;> rfl)|(simp [*, a_t,a_u] <;> rfl),by repeat (first|(with_reducible first|exact HB.out|apply a_d|apply a_c|apply a_e|refine a_a ?_ e_U.out)|exact HB.out)⟩
end Go.Proofs.YtcpfcehfgenljaaDoor.Q
end
section
namespace Go.Proofs.YtcpfcehfgenljaaDoor.Q
open Go.RowKit Go.Proofs.YtcpfcehfgenljaaDoorW.PrintWords Go.Proofs.YtcpfcehfgenljaaDoorW.PrintLast Go.Proofs.YtcpfcehfgenljaaDoorW.PrintMore
set_option linter.unusedVariables false
set_option linter.unusedSimpArgs false
def b_t.f (l0_0 : List (S56)) (a1 : Int) : Option (Bool):=if a1 ≥ 0 then (some (decide (a1 < (l0_0.length : Int)))) else (some false)
set_option maxHeartbeats 8000000 in
set_option maxRecDepth 100000 in
theorem b_t.calls (A0_0 : Option Addr) (c0_0 : Nat) (l0_0 : List (S56)) (a1 : Int) (r : Bool) (w : World) (hr0_0 : Kd.C k56 w A0_0 l0_0.length l0_0) (hc0_0 : l0_0.length ≤ c0_0) (h : b_t.f l0_0 a1 = some r) :
 Calls Tryd.prog 39 #[.agg #[.slice A0_0 l0_0.length c0_0],.int .i64 a1] w fun e w' => e = .returned (.bool r) ∧ Below w.heap.size w w':=by
 have hu24:=Tryd.underlying24
 have b_l:=a_b.mk hr0_0
 have c_h:=a_b.mk hc0_0
 clear hr0_0 hc0_0
 have HB:=a_b.mk (Below.refl w.heap.size w)
 have H : (if a1 ≥ 0 then (some (decide (a1 < (l0_0.length : Int)))) else (some false)) = some r:=h
 clear h
 by_cases c3 : a1 ≥ 0
 ·rw [if_pos c3] at H
  have c3b0 : decide (0 ≤ a1) = true:=decide_eq_true c3
  clear c3
  obtain rfl:=Option.some.inj H
  go_enter Tryd.func39,Tryd.ntmps39
  go_wp2_with (first|((with_reducible refine a_J (N:=2) rfl ?_);(try (refine b_s (by rfl) ?_;dsimp only));refine a_F ?hg (N:=2) ?hd (cs:=#[.slice A0_0 l0_0.length c0_0]) (t:=24) ?hr ?_;(case hd => rfl);(case hg => rfl);(case hr => first|(go_simp;done)|(go_simp;rfl));intro g_6 hg w4 hbox hb;have i_Z:=a_b.mk (hbox);have m_0:=a_b.mk ((by rw [hg];exact (a_i (lup_ HB.out)) : w.heap.size ≤ g_6));have i_3:=a_b.mk ((by rw [hg];exact (a_i (lup_ HB.out)) : w.heap.size ≤ g_6));replace HB:=a_b.mk (a_l (lup_ HB.out) hb);clear hb hbox hg;have k_g : w4.cell? ⟨g_6,0,none⟩ = some (.slice A0_0 l0_0.length c0_0):=(a_k i_Z.out 0).trans rfl;have k_j:=a_g i_Z.out 0))
  go_ret
  exact ⟨by first|rfl|(simp [a_t,a_u] <;> rfl)|(simp [*, a_t,a_u] <;> rfl),by repeat (first|(with_reducible first|exact HB.out|apply a_d|apply a_c|apply a_e|refine a_a ?_ i_3.out)|exact HB.out)⟩
 rw [if_neg c3] at H
 have c3b0 : decide (0 ≤ a1) = false:=decide_eq_false c3
 clear c3
 obtain rfl:=Option.some.inj H
 go_enter Tryd.func39,Tryd.ntmps39
 go_wp2_with (first|((with_reducible refine a_J (N:=2) rfl ?_);(try (refine b_s (by rfl) ?_;dsimp only));refine a_F ?hg (N:=2) ?hd (cs:=#[.slice A0_0 l0_0.length c0_0]) (t:=24) ?hr ?_;(case hd => rfl);(case hg => rfl);(case hr => first|(go_simp;done)|(go_simp;rfl));intro g_6 hg w6 hbox hb;have i_Z:=a_b.mk (hbox);have m_0:=a_b.mk ((by rw [hg];exact (a_i (lup_ HB.out)) : w.heap.size ≤ g_6));have i_3:=a_b.mk ((by rw [hg];exact (a_i (lup_ HB.out)) : w.heap.size ≤ g_6));replace HB:=a_b.mk (a_l (lup_ HB.out) hb);clear hb hbox hg))
 go_ret
 exact ⟨by first|rfl|(simp [a_t,a_u] <;> rfl)|(simp [*, a_t,a_u] <;> rfl),by repeat (first|(with_reducible first|exact HB.out|apply a_d|apply a_c|apply a_e|refine a_a ?_ i_3.out)|exact HB.out)⟩
end Go.Proofs.YtcpfcehfgenljaaDoor.Q
end
section
namespace Go.Proofs.YtcpfcehfgenljaaDoor.Q
open Go.RowKit Go.Proofs.YtcpfcehfgenljaaDoorW.PrintWords Go.Proofs.YtcpfcehfgenljaaDoorW.PrintLast Go.Proofs.YtcpfcehfgenljaaDoorW.PrintMore
set_option linter.unusedVariables false
set_option linter.unusedSimpArgs false
theorem j_h (d : Nat) (w : World) (x0 y0 : Int) (x1 y1 : Int) :
 (Op.equalIn (d + 2) 56 (.agg #[.int .i64 x0,.int .i64 x1]) (.agg #[.int .i64 y0,.int .i64 y1])).run Tryd.prog w = .ok (x0 == y0 && (x1 == y1)) w:=by
 refine k_a Tryd.underlying56 (by kernel_rfl) ?_
 refine i_B (by rfl) (by go_simp;rfl) (by go_simp;rfl) (by go_simp) ?_
 exact i_C (by rfl) (by go_simp;rfl) (by go_simp;rfl) (by go_simp)
end Go.Proofs.YtcpfcehfgenljaaDoor.Q
end
section
namespace Go.Proofs.YtcpfcehfgenljaaDoor.Q
open Go.RowKit Go.Proofs.YtcpfcehfgenljaaDoorW.PrintWords Go.Proofs.YtcpfcehfgenljaaDoorW.PrintLast Go.Proofs.YtcpfcehfgenljaaDoorW.PrintMore
set_option linter.unusedVariables false
set_option linter.unusedSimpArgs false
attribute [local go_sem high] j_h
def a_R.j0 : Nat → Int → Int → Int → Int → Int → Int → Int → Option (Int)
 | 0,_,_,_,_,_,_,_ => none
 | k + 1,x1,x2,x9,x109000,x109001,x110000,x110001 => if (x109000 == x110000 && (x109001 == x110001)) = true then (if x1 = x2 then (some 0) else (some 1)) else (if x1 = x2 then (some 0) else (some x9))
def a_R.f (k : Nat) (l0_0 : List (S56)) (a1 : Int) (a2 : Int) : Option (Int):=if 0 ≤ a1 then (if a1 < (l0_0.length : Int) then (if 0 ≤ a2 then (if a2 < (l0_0.length : Int) then (if ((a_x l0_0 a1).f0) = ((a_x l0_0 a2).f0) then (a_R.j0 k a1 a2 2 ((a_x l0_0 a1).f0) ((a_x l0_0 a1).f1) ((a_x l0_0 a2).f0) ((a_x l0_0 a2).f1)) else (a_R.j0 k a1 a2 3 ((a_x l0_0 a1).f0) ((a_x l0_0 a1).f1) ((a_x l0_0 a2).f0) ((a_x l0_0 a2).f1))) else (none)) else (none)) else (none)) else (none)
theorem a_R.c_w : ∀ k,(∀ y0 y1 y2 y3 y4 y5 y6,LeO (a_R.j0 k y0 y1 y2 y3 y4 y5 y6) (a_R.j0 (k + 1) y0 y1 y2 y3 y4 y5 y6))
 | 0 => fun _ _ _ _ _ _ _ r h => by simp [a_R.j0] at h
 | k + 1 => by
  have ih0:=a_R.c_w k
  ·intro y0 y1 y2 y3 y4 y5 y6
   unfold a_R.j0
   repeat' first
   | (with_reducible exact ih0 _ _ _ _ _ _ _)
   | (with_reducible exact LeO.refl _)
   | (with_reducible exact LeO.none _)
   | (with_reducible refine LeO.ite ?_ ?_)
   | (with_reducible refine LeO.bind ?_ (fun _ => ?_))
   | exact ih0 _ _ _ _ _ _ _
   | exact LeO.none _
   | refine LeO.ite ?_ ?_
   | refine LeO.bind ?_ (fun _ => ?_)
theorem a_R.mono : ∀ a0 a1 a2 k,LeO (a_R.f k a0 a1 a2) (a_R.f (k + 1) a0 a1 a2):=by
 intro a0 a1 a2 k
 have ih0:=a_R.c_w k
 unfold a_R.f
 repeat' first
  | (with_reducible exact ih0 _ _ _ _ _ _ _)
  | (with_reducible exact LeO.refl _)
  | (with_reducible exact LeO.none _)
  | (with_reducible refine LeO.ite ?_ ?_)
  | (with_reducible refine LeO.bind ?_ (fun _ => ?_))
  | exact ih0 _ _ _ _ _ _ _
  | exact LeO.none _
  | refine LeO.ite ?_ ?_
  | refine LeO.bind ?_ (fun _ => ?_)
def a_R.T1 : Bool × List (List Nat × List Nat):=(true,[([],[]),([0],[0]),([],[]),([1,2],[1,2]),([3],[3]),([],[]),([5],[5]),([],[]),([6,7],[6,7]),([8],[8]),([],[]),([],[]),([10,4,0,1,2,3,4,10,11],[4,10]),([11,9,12,0,1,2,3,4,5,6,7,8,9,10,11,12],[9,11])])
def a_R.B1 : List Nat:=[0,1,0,7,15,0,32,0,224,480,0,0,3103,8191]
theorem a_R.tab1 : rtab .any (opsOf Tryd.f40 1) = a_R.T1:=by kernel_rfl
theorem a_R.n_a : d_H a_R.T1.2 a_R.B1 = true:=by kernel_rfl
set_option maxHeartbeats 8000000 in
set_option maxRecDepth 100000 in
theorem a_R.calls (k : Nat) (A0_0 : Option Addr) (c0_0 : Nat) (l0_0 : List (S56)) (a1 : Int) (a2 : Int) (r : Int) (w : World) (hr0_0 : Kd.C k56 w A0_0 l0_0.length l0_0) (hc0_0 : l0_0.length ≤ c0_0) (h : a_R.f k l0_0 a1 a2 = some r) :
 Calls Tryd.prog 40 #[.agg #[.slice A0_0 l0_0.length c0_0],.int .i64 a1,.int .i64 a2] w fun e w' => e = .returned (.int .i64 r) ∧ Below w.heap.size w w':=by
 have hu24:=Tryd.underlying24
 have hu56:=Tryd.underlying56
 have b_l:=a_b.mk hr0_0
 have c_h:=a_b.mk hc0_0
 clear hr0_0 hc0_0
 have HB:=a_b.mk (Below.refl w.heap.size w)
 have H : (if 0 ≤ a1 then (if a1 < (l0_0.length : Int) then (if 0 ≤ a2 then (if a2 < (l0_0.length : Int) then (if ((a_x l0_0 a1).f0) = ((a_x l0_0 a2).f0) then (a_R.j0 k a1 a2 2 ((a_x l0_0 a1).f0) ((a_x l0_0 a1).f1) ((a_x l0_0 a2).f0) ((a_x l0_0 a2).f1)) else (a_R.j0 k a1 a2 3 ((a_x l0_0 a1).f0) ((a_x l0_0 a1).f1) ((a_x l0_0 a2).f0) ((a_x l0_0 a2).f1))) else (none)) else (none)) else (none)) else (none)) = some r:=h
 clear h
 by_cases c4 : 0 ≤ a1
 rotate_left
 ·rw [if_neg c4] at H
  exact absurd H (by simp)
 rw [if_pos c4] at H
 have c4b0 : decide (0 ≤ a1) = true:=decide_eq_true c4
 clear c4
 by_cases c5 : a1 < (l0_0.length : Int)
 rotate_left
 ·rw [if_neg c5] at H
  exact absurd H (by simp)
 rw [if_pos c5] at H
 have c5b0 : decide (a1 < (l0_0.length : Int)) = true:=decide_eq_true c5
 clear c5
 by_cases c6 : 0 ≤ a2
 rotate_left
 ·rw [if_neg c6] at H
  exact absurd H (by simp)
 rw [if_pos c6] at H
 have c6b0 : decide (0 ≤ a2) = true:=decide_eq_true c6
 clear c6
 by_cases c7 : a2 < (l0_0.length : Int)
 rotate_left
 ·rw [if_neg c7] at H
  exact absurd H (by simp)
 rw [if_pos c7] at H
 have c7b0 : decide (a2 < (l0_0.length : Int)) = true:=decide_eq_true c7
 clear c7
 have HC8:=a_b.mk H
 clear H
 go_enter Tryd.func40,Tryd.ntmps40
 try go_wp2_with (first|((with_reducible refine a_J (N:=3) rfl ?_);refine a_F ?hg (N:=3) ?hd (cs:=#[.slice A0_0 l0_0.length c0_0]) (t:=24) ?hr ?_;(case hd => rfl);(case hg => rfl);(case hr => first|(go_simp;done)|(go_simp;rfl));intro c_U hg w9 hbox hb;have c_D:=a_b.mk (hbox);have q_V:=a_b.mk ((by rw [hg];exact (a_i (lup_ HB.out)) : w.heap.size ≤ c_U));have c_6:=a_b.mk ((by rw [hg];exact (a_i (lup_ HB.out)) : w.heap.size ≤ c_U));replace HB:=a_b.mk (a_l (lup_ HB.out) hb);clear hb hbox hg))
 replace c_D:=a_b.mk (a_q c_D.out)
 replace HB:=a_b.mk (a_e HB.out)
 have p106 : 0 ≤ (a1 : Int):=of_decide_eq_true (by first|(with_reducible assumption)|assumption)
 have q106 : a1 < (l0_0.length : Int):=of_decide_eq_true (by first|(with_reducible assumption)|assumption)
 obtain ⟨ad106,e106,d_T,d_U⟩:=b_r b_l.out a1 p106 q106
 have b_Y:=d_U
 have b_X:=d_T
 cases e106
 replace d_T:=(HB.out.cell (World.block_lt_of_cell? w _ d_T)).trans d_T
 replace d_U:=(HB.out.cell (World.block_lt_of_cell? w _ d_U)).trans d_U
 replace p106:=eq_true p106
 replace q106:=eq_true q106
 have p107 : 0 ≤ (a2 : Int):=of_decide_eq_true (by first|(with_reducible assumption)|assumption)
 have q107 : a2 < (l0_0.length : Int):=of_decide_eq_true (by first|(with_reducible assumption)|assumption)
 obtain ⟨ad107,e107,d_V,d_W⟩:=b_r b_l.out a2 p107 q107
 have b_0:=d_W
 have b_Z:=d_V
 obtain rfl : ad106 = ad107:=(by injection e107)
 replace d_V:=(HB.out.cell (World.block_lt_of_cell? w _ d_V)).trans d_V
 replace d_W:=(HB.out.cell (World.block_lt_of_cell? w _ d_W)).trans d_W
 replace p107:=eq_true p107
 replace q107:=eq_true q107
 refine i_k (n:=14) (S:=fun w' => w'.cell? ⟨c_U,0,none⟩ = some (.slice (some ad106) l0_0.length c0_0) ∧ w'.cell? (ad106.add ((a1).toNat * 2)) = some (.int .i64 ((a_x l0_0 a1).f0)) ∧ w'.cell? ⟨(ad106.add ((a1).toNat * 2)).block,(ad106.add ((a1).toNat * 2)).off + 1,none⟩ = some (.int .i64 ((a_x l0_0 a1).f1)) ∧ w'.cell? (ad106.add ((a2).toNat * 2)) = some (.int .i64 ((a_x l0_0 a2).f0)) ∧ w'.cell? ⟨(ad106.add ((a2).toNat * 2)).block,(ad106.add ((a2).toNat * 2)).off + 1,none⟩ = some (.int .i64 ((a_x l0_0 a2).f1))) (ds:=[]) #[F_,F_,F_,F_,F_,F_,F_,F_,F_,F_,F_,F_,F_,F_] (by kernel_rfl) rfl rfl ⟨(a_k c_D.out 0).trans rfl,((HB.out.cell (World.block_lt_of_cell? w _ b_X)).trans b_X),((HB.out.cell (World.block_lt_of_cell? w _ b_Y)).trans b_Y),((HB.out.cell (World.block_lt_of_cell? w _ b_Z)).trans b_Z),((HB.out.cell (World.block_lt_of_cell? w _ b_0)).trans b_0)⟩ (fun hHeld => ?_);refine e_v a_R.tab1 a_R.n_a (fun HT_ HW_ => ?_)
 generalize w9.drew = w10 at c_D HB d_T d_U d_V d_W hHeld ⊢
 refine pt_ 0 (some 10) #[T_,F_,F_,F_,F_,F_,F_,F_,F_,F_,F_,F_,F_,F_] HT_ ?_
 refine pt_ 2 (some 12) #[T_,F_,T_,F_,F_,F_,F_,F_,F_,F_,F_,F_,F_,F_] HT_ ?_
 refine pt_ 5 (some 15) #[T_,F_,T_,F_,F_,T_,F_,F_,F_,F_,F_,F_,F_,F_] HT_ ?_
 refine pt_ 7 (some 17) #[T_,F_,T_,F_,F_,T_,F_,T_,F_,F_,F_,F_,F_,F_] HT_ ?_
 refine f_g (i:=1) (N:=some 11) (v:=?_) (a':=?_) #[T_,T_,T_,F_,F_,T_,F_,T_,F_,F_,F_,F_,F_,F_] rfl rfl (d_e HT_.out HW_.out (by kernel_rfl)) (fun _ _ _ h => h) (Or.inl ⟨by rfl,?_⟩) hHeld ?_ ?_
 rotate_left
 ·rintro w' ⟨s0,s1,s2,s3,s4⟩
  go_simp
  with_reducible rfl
 rotate_left
 ·simp only [Act.put,sa_,sb_,sc_,c_c,c_b]
  rfl
 refine pt_ 3 (some 13) #[T_,T_,T_,T_,F_,T_,F_,T_,F_,F_,F_,F_,F_,F_] HT_ ?_
 refine f_g (i:=4) (N:=some 14) (v:=?_) (a':=?_) #[T_,T_,T_,T_,T_,T_,F_,T_,F_,F_,F_,F_,F_,F_] rfl rfl (d_e HT_.out HW_.out (by kernel_rfl)) (fun _ _ _ h => h) (Or.inl ⟨by rfl,?_⟩) hHeld ?_ ?_
 rotate_left
 ·rintro w' ⟨s0,s1,s2,s3,s4⟩
  go_simp
  with_reducible rfl
 rotate_left
 ·simp only [Act.put,sa_,sb_,sc_,c_c,c_b]
  rfl
 refine f_g (i:=6) (N:=some 16) (v:=?_) (a':=?_) #[T_,T_,T_,T_,T_,T_,T_,T_,F_,F_,F_,F_,F_,F_] rfl rfl (d_e HT_.out HW_.out (by kernel_rfl)) (fun _ _ _ h => h) (Or.inl ⟨by rfl,?_⟩) hHeld ?_ ?_
 rotate_left
 ·rintro w' ⟨s0,s1,s2,s3,s4⟩
  go_simp
  with_reducible rfl
 rotate_left
 ·simp only [Act.put,sa_,sb_,sc_,c_c,c_b]
  rfl
 refine pt_ 8 (some 18) #[T_,T_,T_,T_,T_,T_,T_,T_,T_,F_,F_,F_,F_,F_] HT_ ?_
 refine f_g (i:=9) (N:=some 19) (v:=?_) (a':=?_) #[T_,T_,T_,T_,T_,T_,T_,T_,T_,T_,F_,F_,F_,F_] rfl rfl (d_e HT_.out HW_.out (by kernel_rfl)) (fun _ _ _ h => h) (Or.inl ⟨by rfl,?_⟩) hHeld ?_ ?_
 rotate_left
 ·rintro w' ⟨s0,s1,s2,s3,s4⟩
  go_simp
  with_reducible rfl
 rotate_left
 ·simp only [Act.put,sa_,sb_,sc_,c_c,c_b]
  rfl
 refine d_8 (σ:=Nat × Nat) 2 Z2_ (fun s_ => [(7,.pointer (some ⟨s_.1,0,none⟩)),(8,.pointer (some ⟨s_.2,0,none⟩))]) (fun s_ w' => (w'.cell? ⟨c_U,0,none⟩ = some (.slice (some ad106) l0_0.length c0_0) ∧ w'.cell? (ad106.add ((a1).toNat * 2)) = some (.int .i64 ((a_x l0_0 a1).f0)) ∧ w'.cell? ⟨(ad106.add ((a1).toNat * 2)).block,(ad106.add ((a1).toNat * 2)).off + 1,none⟩ = some (.int .i64 ((a_x l0_0 a1).f1)) ∧ w'.cell? (ad106.add ((a2).toNat * 2)) = some (.int .i64 ((a_x l0_0 a2).f0)) ∧ w'.cell? ⟨(ad106.add ((a2).toNat * 2)).block,(ad106.add ((a2).toNat * 2)).off + 1,none⟩ = some (.int .i64 ((a_x l0_0 a2).f1))) ∧ (w'.heap[c_U]? = some (.cells #[.slice (some ad106) l0_0.length c0_0] 24 (0,0))) ∧ (w'.heap[s_.1]? = some (.cells #[.int .i64 0,.int .i64 0] 56 (0,0))) ∧ (w'.heap[s_.2]? = some (.cells #[.int .i64 0,.int .i64 0] 56 (0,0))) ∧ (w.heap.size ≤ s_.1) ∧ (w.heap.size ≤ s_.1) ∧ (c_U ≠ s_.1) ∧ (s_.1 ≠ c_U) ∧ (s_.2 ≠ s_.1) ∧ (s_.1 ≠ s_.2) ∧ (w.heap.size ≤ s_.2) ∧ (w.heap.size ≤ s_.2) ∧ (c_U ≠ s_.2) ∧ (s_.2 ≠ c_U) ∧ (Below w.heap.size w w')) ?_ ?_
 rotate_left
 ·intro hCont
  refine two_ (i:=10) (j:=11) (Ni:=some 7) (Nj:=some 8) #[T_,T_,T_,T_,T_,T_,T_,T_,T_,T_,T_,F_,F_,F_] #[T_,T_,T_,T_,T_,T_,T_,T_,T_,T_,F_,T_,F_,F_] rfl rfl rfl rfl (e_S HT_.out (by kernel_rfl)) (by decide) (by decide) (fun K hK => ?_) (fun K hK => ?_)
  ·skip
   refine b_8 ?hg (N:=7) ?hd (cs:=#[.int .i64 0,.int .i64 0]) (t:=56) ?hr ?_;(case hd => rfl);(case hg => rfl);(case hr => first|(go_simp;done)|(go_simp;rfl))
   intro b_4 hg w11 hbox hb
   have c_p:=a_b.mk (hbox)
   have c_n:=a_b.mk ((by rw [hg];exact (a_i (by repeat (first|(with_reducible first|exact HB.out|apply a_d|apply a_c|apply a_e|refine a_a ?_ c_6.out)|exact HB.out))) : w.heap.size ≤ b_4))
   have d_z:=a_b.mk ((by rw [hg];exact (a_i (by repeat (first|(with_reducible first|exact HB.out|apply a_d|apply a_c|apply a_e|refine a_a ?_ c_6.out)|exact HB.out))) : w.heap.size ≤ b_4))
   have b_R:=a_b.mk ((by rw [hg];exact Nat.ne_of_lt (a_M (bup_ c_D.out)) : c_U ≠ b_4))
   have c_t:=a_b.mk ((by rw [hg];exact Nat.ne_of_gt (a_M (bup_ c_D.out)) : b_4 ≠ c_U))
   replace c_D:=a_b.mk (a_h (bup_ c_D.out) hb)
   replace HB:=a_b.mk (a_l (by repeat (first|(with_reducible first|exact HB.out|apply a_d|apply a_c|apply a_e|refine a_a ?_ c_6.out)|exact HB.out)) hb)
   clear hb hbox hg
   refine hK.out _ _ ⟨(a_k c_D.out 0).trans rfl,((HB.out.cell (World.block_lt_of_cell? w _ b_X)).trans b_X),((HB.out.cell (World.block_lt_of_cell? w _ b_Y)).trans b_Y),((HB.out.cell (World.block_lt_of_cell? w _ b_Z)).trans b_Z),((HB.out.cell (World.block_lt_of_cell? w _ b_0)).trans b_0)⟩ (fun hHeld => ?_)
   clear hK K
   refine b_I (a':=?_) ?_ ?_
   rotate_left
   ·show Act.put _ (some 7) _ = _
    simp only [Act.put,sa_,sb_,sc_,c_c,c_b]
    rfl
   refine one_ (i:=11) (N:=some 8) Z2_ rfl rfl (c_8 HT_.out (by kernel_rfl)) (by decide) (fun K hK => ?_)
   refine b_8 ?hg (N:=8) ?hd (cs:=#[.int .i64 0,.int .i64 0]) (t:=56) ?hr ?_;(case hd => rfl);(case hg => rfl);(case hr => first|(go_simp;done)|(go_simp;rfl))
   intro b_5 hg w12 hbox hb
   have c_q:=a_b.mk (hbox)
   have c_o:=a_b.mk ((by rw [hg];exact (a_i (by repeat (first|(with_reducible first|exact HB.out|apply a_d|apply a_c|apply a_e|refine a_a ?_ c_6.out|refine a_a ?_ d_z.out)|exact HB.out))) : w.heap.size ≤ b_5))
   have d_A:=a_b.mk ((by rw [hg];exact (a_i (by repeat (first|(with_reducible first|exact HB.out|apply a_d|apply a_c|apply a_e|refine a_a ?_ c_6.out|refine a_a ?_ d_z.out)|exact HB.out))) : w.heap.size ≤ b_5))
   have b_S:=a_b.mk ((by rw [hg];exact Nat.ne_of_lt (a_M (bup_ c_D.out)) : c_U ≠ b_5))
   have c_u:=a_b.mk ((by rw [hg];exact Nat.ne_of_gt (a_M (bup_ c_D.out)) : b_5 ≠ c_U))
   have b_T:=a_b.mk ((by rw [hg];exact Nat.ne_of_lt (a_M (bup_ c_p.out)) : b_4 ≠ b_5))
   have b_U:=a_b.mk ((by rw [hg];exact Nat.ne_of_gt (a_M (bup_ c_p.out)) : b_5 ≠ b_4))
   replace c_D:=a_b.mk (a_h (bup_ c_D.out) hb)
   replace c_p:=a_b.mk (a_h (bup_ c_p.out) hb)
   replace HB:=a_b.mk (a_l (by repeat (first|(with_reducible first|exact HB.out|apply a_d|apply a_c|apply a_e|refine a_a ?_ c_6.out|refine a_a ?_ d_z.out)|exact HB.out)) hb)
   clear hb hbox hg
   refine hK.out _ _ ⟨(a_k c_D.out 0).trans rfl,((HB.out.cell (World.block_lt_of_cell? w _ b_X)).trans b_X),((HB.out.cell (World.block_lt_of_cell? w _ b_Y)).trans b_Y),((HB.out.cell (World.block_lt_of_cell? w _ b_Z)).trans b_Z),((HB.out.cell (World.block_lt_of_cell? w _ b_0)).trans b_0)⟩ (fun hHeld => ?_)
   clear hK K
   refine b_I (a':=?_) ?_ ?_
   rotate_left
   ·show Act.put _ (some 8) _ = _
    simp only [Act.put,sa_,sb_,sc_,c_c,c_b]
    rfl
   exact b_I (by simp only [b_m,Act.put,sa_,sb_,sc_]) (hCont (b_4,b_5) _ ⟨hHeld,(bup_ c_D.out),(bup_ c_p.out),(bup_ c_q.out),c_n.out,d_z.out,b_R.out,c_t.out,b_U.out,b_T.out,c_o.out,d_A.out,b_S.out,c_u.out,(by repeat (first|(with_reducible first|exact HB.out|apply a_d|apply a_c|apply a_e|refine a_a ?_ c_6.out|refine a_a ?_ d_z.out|refine a_a ?_ d_A.out)|exact HB.out))⟩)
  skip
  refine b_8 ?hg (N:=8) ?hd (cs:=#[.int .i64 0,.int .i64 0]) (t:=56) ?hr ?_;(case hd => rfl);(case hg => rfl);(case hr => first|(go_simp;done)|(go_simp;rfl))
  intro b_5 hg w11 hbox hb
  have c_q:=a_b.mk (hbox)
  have c_o:=a_b.mk ((by rw [hg];exact (a_i (by repeat (first|(with_reducible first|exact HB.out|apply a_d|apply a_c|apply a_e|refine a_a ?_ c_6.out)|exact HB.out))) : w.heap.size ≤ b_5))
  have d_A:=a_b.mk ((by rw [hg];exact (a_i (by repeat (first|(with_reducible first|exact HB.out|apply a_d|apply a_c|apply a_e|refine a_a ?_ c_6.out)|exact HB.out))) : w.heap.size ≤ b_5))
  have b_S:=a_b.mk ((by rw [hg];exact Nat.ne_of_lt (a_M (bup_ c_D.out)) : c_U ≠ b_5))
  have c_u:=a_b.mk ((by rw [hg];exact Nat.ne_of_gt (a_M (bup_ c_D.out)) : b_5 ≠ c_U))
  replace c_D:=a_b.mk (a_h (bup_ c_D.out) hb)
  replace HB:=a_b.mk (a_l (by repeat (first|(with_reducible first|exact HB.out|apply a_d|apply a_c|apply a_e|refine a_a ?_ c_6.out)|exact HB.out)) hb)
  clear hb hbox hg
  refine hK.out _ _ ⟨(a_k c_D.out 0).trans rfl,((HB.out.cell (World.block_lt_of_cell? w _ b_X)).trans b_X),((HB.out.cell (World.block_lt_of_cell? w _ b_Y)).trans b_Y),((HB.out.cell (World.block_lt_of_cell? w _ b_Z)).trans b_Z),((HB.out.cell (World.block_lt_of_cell? w _ b_0)).trans b_0)⟩ (fun hHeld => ?_)
  clear hK K
  refine b_I (a':=?_) ?_ ?_
  rotate_left
  ·show Act.put _ (some 8) _ = _
   simp only [Act.put,sa_,sb_,sc_,c_c,c_b]
   rfl
  refine one_ (i:=10) (N:=some 7) Z2_ rfl rfl (c_8 HT_.out (by kernel_rfl)) (by decide) (fun K hK => ?_)
  refine b_8 ?hg (N:=7) ?hd (cs:=#[.int .i64 0,.int .i64 0]) (t:=56) ?hr ?_;(case hd => rfl);(case hg => rfl);(case hr => first|(go_simp;done)|(go_simp;rfl))
  intro b_4 hg w12 hbox hb
  have c_p:=a_b.mk (hbox)
  have c_n:=a_b.mk ((by rw [hg];exact (a_i (by repeat (first|(with_reducible first|exact HB.out|apply a_d|apply a_c|apply a_e|refine a_a ?_ c_6.out|refine a_a ?_ d_A.out)|exact HB.out))) : w.heap.size ≤ b_4))
  have d_z:=a_b.mk ((by rw [hg];exact (a_i (by repeat (first|(with_reducible first|exact HB.out|apply a_d|apply a_c|apply a_e|refine a_a ?_ c_6.out|refine a_a ?_ d_A.out)|exact HB.out))) : w.heap.size ≤ b_4))
  have b_R:=a_b.mk ((by rw [hg];exact Nat.ne_of_lt (a_M (bup_ c_D.out)) : c_U ≠ b_4))
  have c_t:=a_b.mk ((by rw [hg];exact Nat.ne_of_gt (a_M (bup_ c_D.out)) : b_4 ≠ c_U))
  have b_U:=a_b.mk ((by rw [hg];exact Nat.ne_of_lt (a_M (bup_ c_q.out)) : b_5 ≠ b_4))
  have b_T:=a_b.mk ((by rw [hg];exact Nat.ne_of_gt (a_M (bup_ c_q.out)) : b_4 ≠ b_5))
  replace c_D:=a_b.mk (a_h (bup_ c_D.out) hb)
  replace c_q:=a_b.mk (a_h (bup_ c_q.out) hb)
  replace HB:=a_b.mk (a_l (by repeat (first|(with_reducible first|exact HB.out|apply a_d|apply a_c|apply a_e|refine a_a ?_ c_6.out|refine a_a ?_ d_A.out)|exact HB.out)) hb)
  clear hb hbox hg
  refine hK.out _ _ ⟨(a_k c_D.out 0).trans rfl,((HB.out.cell (World.block_lt_of_cell? w _ b_X)).trans b_X),((HB.out.cell (World.block_lt_of_cell? w _ b_Y)).trans b_Y),((HB.out.cell (World.block_lt_of_cell? w _ b_Z)).trans b_Z),((HB.out.cell (World.block_lt_of_cell? w _ b_0)).trans b_0)⟩ (fun hHeld => ?_)
  clear hK K
  refine b_I (a':=?_) ?_ ?_
  rotate_left
  ·show Act.put _ (some 7) _ = _
   simp only [Act.put,sa_,sb_,sc_,c_c,c_b]
   rfl
  exact b_I (by simp only [b_m,Act.put,sa_,sb_,sc_]) (hCont (b_4,b_5) _ ⟨hHeld,(bup_ c_D.out),(bup_ c_p.out),(bup_ c_q.out),c_n.out,d_z.out,b_R.out,c_t.out,b_U.out,b_T.out,c_o.out,d_A.out,b_S.out,c_u.out,(by repeat (first|(with_reducible first|exact HB.out|apply a_d|apply a_c|apply a_e|refine a_a ?_ c_6.out|refine a_a ?_ d_A.out|refine a_a ?_ d_z.out)|exact HB.out))⟩)
 rintro ⟨b_4,b_5⟩ w13 ⟨hS_,h0_,h1_,h2_,h3_,h4_,h5_,h6_,h7_,h8_,h9_,h10_,h11_,h12_,h13_⟩
 have c_p : a_b (w13.heap[b_4]? = some (.cells #[.int .i64 0,.int .i64 0] 56 (0,0))):=⟨h1_⟩
 have c_q : a_b (w13.heap[b_5]? = some (.cells #[.int .i64 0,.int .i64 0] 56 (0,0))):=⟨h2_⟩
 have c_n : a_b (w.heap.size ≤ b_4):=⟨h3_⟩
 have d_z : a_b (w.heap.size ≤ b_4):=⟨h4_⟩
 have b_R : a_b (c_U ≠ b_4):=⟨h5_⟩
 have c_t : a_b (b_4 ≠ c_U):=⟨h6_⟩
 have b_U : a_b (b_5 ≠ b_4):=⟨h7_⟩
 have b_T : a_b (b_4 ≠ b_5):=⟨h8_⟩
 have c_o : a_b (w.heap.size ≤ b_5):=⟨h9_⟩
 have d_A : a_b (w.heap.size ≤ b_5):=⟨h10_⟩
 have b_S : a_b (c_U ≠ b_5):=⟨h11_⟩
 have c_u : a_b (b_5 ≠ c_U):=⟨h12_⟩
 replace c_D : a_b (w13.heap[c_U]? = some (.cells #[.slice (some ad106) l0_0.length c0_0] 24 (0,0))):=⟨h0_⟩
 replace HB : a_b (Below w.heap.size w w13):=⟨h13_⟩
 clear h0_ h1_ h2_ h3_ h4_ h5_ h6_ h7_ h8_ h9_ h10_ h11_ h12_ h13_
 have hHeld : w13.cell? ⟨c_U,0,none⟩ = some (.slice (some ad106) l0_0.length c0_0) ∧ w13.cell? (ad106.add ((a1).toNat * 2)) = some (.int .i64 ((a_x l0_0 a1).f0)) ∧ w13.cell? ⟨(ad106.add ((a1).toNat * 2)).block,(ad106.add ((a1).toNat * 2)).off + 1,none⟩ = some (.int .i64 ((a_x l0_0 a1).f1)) ∧ w13.cell? (ad106.add ((a2).toNat * 2)) = some (.int .i64 ((a_x l0_0 a2).f0)) ∧ w13.cell? ⟨(ad106.add ((a2).toNat * 2)).block,(ad106.add ((a2).toNat * 2)).off + 1,none⟩ = some (.int .i64 ((a_x l0_0 a2).f1)):=hS_
 refine b_I (a':=?_) ?_ ?_
 rotate_left
 ·simp only [b_m,Act.put,sa_,sb_,sc_]
  rfl
 refine one_ (i:=12) (N:=none) #[T_,T_,T_,T_,T_,T_,T_,T_,T_,T_,T_,T_,T_,F_] rfl rfl (c_8 HT_.out (by kernel_rfl)) (by decide) (fun K hK => ?_)
 have hs14 : w13.cell? ⟨b_4,0,none⟩ = some (.int .i64 0):=(a_k c_p.out 0).trans rfl
 have hfs14:=a_g c_p.out 0
 have hns14_0:=b_R.out
 have hns14_2:=b_U.out
 have hms14_0:=c_t.out
 have hms14_2:=b_T.out
 have hs15 : w13.cell? ⟨b_4,1,none⟩ = some (.int .i64 0):=(a_k c_p.out 1).trans rfl
 have hfs15:=a_g c_p.out 1
 have hns15_0:=b_R.out
 have hns15_2:=b_U.out
 have hms15_0:=c_t.out
 have hms15_2:=b_T.out
 refine i_j (w1:=?_) (by rfl) rfl ?_ ?_
 rotate_left
 ·go_simp
  rfl
 refine hK.out _ _ ⟨((cell_far (p:=⟨b_4,_,none⟩) b_R.out _).trans (((cell_far (p:=⟨b_4,_,none⟩) b_R.out _).trans (hHeld.1)))),((cell_far (p:=⟨b_4,_,none⟩) (by first|exact Nat.ne_of_lt (Nat.lt_of_lt_of_le (by have:=World.block_lt_of_cell? _ _ b_X;first|rwa [add_block] at this|exact this) c_n.out)|(rw [add_block];exact Nat.ne_of_lt (Nat.lt_of_lt_of_le (by have:=World.block_lt_of_cell? _ _ b_X;first|rwa [add_block] at this|exact this) c_n.out))|(show (Addr.add _ _).block ≠ _;rw [add_block];exact Nat.ne_of_lt (Nat.lt_of_lt_of_le (by have:=World.block_lt_of_cell? _ _ b_X;first|rwa [add_block] at this|exact this) c_n.out))|(dsimp only;exact Nat.ne_of_lt (Nat.lt_of_lt_of_le (by have:=World.block_lt_of_cell? _ _ b_X;first|rwa [add_block] at this|exact this) c_n.out))) _).trans (((cell_far (p:=⟨b_4,_,none⟩) (by first|exact Nat.ne_of_lt (Nat.lt_of_lt_of_le (by have:=World.block_lt_of_cell? _ _ b_X;first|rwa [add_block] at this|exact this) c_n.out)|(rw [add_block];exact Nat.ne_of_lt (Nat.lt_of_lt_of_le (by have:=World.block_lt_of_cell? _ _ b_X;first|rwa [add_block] at this|exact this) c_n.out))|(show (Addr.add _ _).block ≠ _;rw [add_block];exact Nat.ne_of_lt (Nat.lt_of_lt_of_le (by have:=World.block_lt_of_cell? _ _ b_X;first|rwa [add_block] at this|exact this) c_n.out))|(dsimp only;exact Nat.ne_of_lt (Nat.lt_of_lt_of_le (by have:=World.block_lt_of_cell? _ _ b_X;first|rwa [add_block] at this|exact this) c_n.out))) _).trans (hHeld.2.1)))),((cell_far (p:=⟨b_4,_,none⟩) (by first|exact Nat.ne_of_lt (Nat.lt_of_lt_of_le (by have:=World.block_lt_of_cell? _ _ b_Y;first|rwa [add_block] at this|exact this) c_n.out)|(rw [add_block];exact Nat.ne_of_lt (Nat.lt_of_lt_of_le (by have:=World.block_lt_of_cell? _ _ b_Y;first|rwa [add_block] at this|exact this) c_n.out))|(show (Addr.add _ _).block ≠ _;rw [add_block];exact Nat.ne_of_lt (Nat.lt_of_lt_of_le (by have:=World.block_lt_of_cell? _ _ b_Y;first|rwa [add_block] at this|exact this) c_n.out))|(dsimp only;exact Nat.ne_of_lt (Nat.lt_of_lt_of_le (by have:=World.block_lt_of_cell? _ _ b_Y;first|rwa [add_block] at this|exact this) c_n.out))) _).trans (((cell_far (p:=⟨b_4,_,none⟩) (by first|exact Nat.ne_of_lt (Nat.lt_of_lt_of_le (by have:=World.block_lt_of_cell? _ _ b_Y;first|rwa [add_block] at this|exact this) c_n.out)|(rw [add_block];exact Nat.ne_of_lt (Nat.lt_of_lt_of_le (by have:=World.block_lt_of_cell? _ _ b_Y;first|rwa [add_block] at this|exact this) c_n.out))|(show (Addr.add _ _).block ≠ _;rw [add_block];exact Nat.ne_of_lt (Nat.lt_of_lt_of_le (by have:=World.block_lt_of_cell? _ _ b_Y;first|rwa [add_block] at this|exact this) c_n.out))|(dsimp only;exact Nat.ne_of_lt (Nat.lt_of_lt_of_le (by have:=World.block_lt_of_cell? _ _ b_Y;first|rwa [add_block] at this|exact this) c_n.out))) _).trans (hHeld.2.2.1)))),((cell_far (p:=⟨b_4,_,none⟩) (by first|exact Nat.ne_of_lt (Nat.lt_of_lt_of_le (by have:=World.block_lt_of_cell? _ _ b_Z;first|rwa [add_block] at this|exact this) c_n.out)|(rw [add_block];exact Nat.ne_of_lt (Nat.lt_of_lt_of_le (by have:=World.block_lt_of_cell? _ _ b_Z;first|rwa [add_block] at this|exact this) c_n.out))|(show (Addr.add _ _).block ≠ _;rw [add_block];exact Nat.ne_of_lt (Nat.lt_of_lt_of_le (by have:=World.block_lt_of_cell? _ _ b_Z;first|rwa [add_block] at this|exact this) c_n.out))|(dsimp only;exact Nat.ne_of_lt (Nat.lt_of_lt_of_le (by have:=World.block_lt_of_cell? _ _ b_Z;first|rwa [add_block] at this|exact this) c_n.out))) _).trans (((cell_far (p:=⟨b_4,_,none⟩) (by first|exact Nat.ne_of_lt (Nat.lt_of_lt_of_le (by have:=World.block_lt_of_cell? _ _ b_Z;first|rwa [add_block] at this|exact this) c_n.out)|(rw [add_block];exact Nat.ne_of_lt (Nat.lt_of_lt_of_le (by have:=World.block_lt_of_cell? _ _ b_Z;first|rwa [add_block] at this|exact this) c_n.out))|(show (Addr.add _ _).block ≠ _;rw [add_block];exact Nat.ne_of_lt (Nat.lt_of_lt_of_le (by have:=World.block_lt_of_cell? _ _ b_Z;first|rwa [add_block] at this|exact this) c_n.out))|(dsimp only;exact Nat.ne_of_lt (Nat.lt_of_lt_of_le (by have:=World.block_lt_of_cell? _ _ b_Z;first|rwa [add_block] at this|exact this) c_n.out))) _).trans (hHeld.2.2.2.1)))),((cell_far (p:=⟨b_4,_,none⟩) (by first|exact Nat.ne_of_lt (Nat.lt_of_lt_of_le (by have:=World.block_lt_of_cell? _ _ b_0;first|rwa [add_block] at this|exact this) c_n.out)|(rw [add_block];exact Nat.ne_of_lt (Nat.lt_of_lt_of_le (by have:=World.block_lt_of_cell? _ _ b_0;first|rwa [add_block] at this|exact this) c_n.out))|(show (Addr.add _ _).block ≠ _;rw [add_block];exact Nat.ne_of_lt (Nat.lt_of_lt_of_le (by have:=World.block_lt_of_cell? _ _ b_0;first|rwa [add_block] at this|exact this) c_n.out))|(dsimp only;exact Nat.ne_of_lt (Nat.lt_of_lt_of_le (by have:=World.block_lt_of_cell? _ _ b_0;first|rwa [add_block] at this|exact this) c_n.out))) _).trans (((cell_far (p:=⟨b_4,_,none⟩) (by first|exact Nat.ne_of_lt (Nat.lt_of_lt_of_le (by have:=World.block_lt_of_cell? _ _ b_0;first|rwa [add_block] at this|exact this) c_n.out)|(rw [add_block];exact Nat.ne_of_lt (Nat.lt_of_lt_of_le (by have:=World.block_lt_of_cell? _ _ b_0;first|rwa [add_block] at this|exact this) c_n.out))|(show (Addr.add _ _).block ≠ _;rw [add_block];exact Nat.ne_of_lt (Nat.lt_of_lt_of_le (by have:=World.block_lt_of_cell? _ _ b_0;first|rwa [add_block] at this|exact this) c_n.out))|(dsimp only;exact Nat.ne_of_lt (Nat.lt_of_lt_of_le (by have:=World.block_lt_of_cell? _ _ b_0;first|rwa [add_block] at this|exact this) c_n.out))) _).trans (hHeld.2.2.2.2))))⟩ (fun hHeld => ?_)
 clear hK K
 refine one_ (i:=13) (N:=none) #[T_,T_,T_,T_,T_,T_,T_,T_,T_,T_,T_,T_,T_,T_] rfl rfl (c_8 HT_.out (by kernel_rfl)) (by decide) (fun K hK => ?_)
 have hs16 : w13.cell? ⟨b_5,0,none⟩ = some (.int .i64 0):=(a_k c_q.out 0).trans rfl
 have hfs16:=a_g c_q.out 0
 have hns16_0:=b_S.out
 have hns16_1:=b_T.out
 have hms16_0:=c_u.out
 have hms16_1:=b_U.out
 have hs17 : w13.cell? ⟨b_5,1,none⟩ = some (.int .i64 0):=(a_k c_q.out 1).trans rfl
 have hfs17:=a_g c_q.out 1
 have hns17_0:=b_S.out
 have hns17_1:=b_T.out
 have hms17_0:=c_u.out
 have hms17_1:=b_U.out
 refine i_j (w1:=?_) (by rfl) rfl ?_ ?_
 rotate_left
 ·go_simp
  rfl
 refine hK.out _ _ ⟨((cell_far (p:=⟨b_5,_,none⟩) b_S.out _).trans (((cell_far (p:=⟨b_5,_,none⟩) b_S.out _).trans (hHeld.1)))),((cell_far (p:=⟨b_5,_,none⟩) (by first|exact Nat.ne_of_lt (Nat.lt_of_lt_of_le (by have:=World.block_lt_of_cell? _ _ b_X;first|rwa [add_block] at this|exact this) c_o.out)|(rw [add_block];exact Nat.ne_of_lt (Nat.lt_of_lt_of_le (by have:=World.block_lt_of_cell? _ _ b_X;first|rwa [add_block] at this|exact this) c_o.out))|(show (Addr.add _ _).block ≠ _;rw [add_block];exact Nat.ne_of_lt (Nat.lt_of_lt_of_le (by have:=World.block_lt_of_cell? _ _ b_X;first|rwa [add_block] at this|exact this) c_o.out))|(dsimp only;exact Nat.ne_of_lt (Nat.lt_of_lt_of_le (by have:=World.block_lt_of_cell? _ _ b_X;first|rwa [add_block] at this|exact this) c_o.out))) _).trans (((cell_far (p:=⟨b_5,_,none⟩) (by first|exact Nat.ne_of_lt (Nat.lt_of_lt_of_le (by have:=World.block_lt_of_cell? _ _ b_X;first|rwa [add_block] at this|exact this) c_o.out)|(rw [add_block];exact Nat.ne_of_lt (Nat.lt_of_lt_of_le (by have:=World.block_lt_of_cell? _ _ b_X;first|rwa [add_block] at this|exact this) c_o.out))|(show (Addr.add _ _).block ≠ _;rw [add_block];exact Nat.ne_of_lt (Nat.lt_of_lt_of_le (by have:=World.block_lt_of_cell? _ _ b_X;first|rwa [add_block] at this|exact this) c_o.out))|(dsimp only;exact Nat.ne_of_lt (Nat.lt_of_lt_of_le (by have:=World.block_lt_of_cell? _ _ b_X;first|rwa [add_block] at this|exact this) c_o.out))) _).trans (hHeld.2.1)))),((cell_far (p:=⟨b_5,_,none⟩) (by first|exact Nat.ne_of_lt (Nat.lt_of_lt_of_le (by have:=World.block_lt_of_cell? _ _ b_Y;first|rwa [add_block] at this|exact this) c_o.out)|(rw [add_block];exact Nat.ne_of_lt (Nat.lt_of_lt_of_le (by have:=World.block_lt_of_cell? _ _ b_Y;first|rwa [add_block] at this|exact this) c_o.out))|(show (Addr.add _ _).block ≠ _;rw [add_block];exact Nat.ne_of_lt (Nat.lt_of_lt_of_le (by have:=World.block_lt_of_cell? _ _ b_Y;first|rwa [add_block] at this|exact this) c_o.out))|(dsimp only;exact Nat.ne_of_lt (Nat.lt_of_lt_of_le (by have:=World.block_lt_of_cell? _ _ b_Y;first|rwa [add_block] at this|exact this) c_o.out))) _).trans (((cell_far (p:=⟨b_5,_,none⟩) (by first|exact Nat.ne_of_lt (Nat.lt_of_lt_of_le (by have:=World.block_lt_of_cell? _ _ b_Y;first|rwa [add_block] at this|exact this) c_o.out)|(rw [add_block];exact Nat.ne_of_lt (Nat.lt_of_lt_of_le (by have:=World.block_lt_of_cell? _ _ b_Y;first|rwa [add_block] at this|exact this) c_o.out))|(show (Addr.add _ _).block ≠ _;rw [add_block];exact Nat.ne_of_lt (Nat.lt_of_lt_of_le (by have:=World.block_lt_of_cell? _ _ b_Y;first|rwa [add_block] at this|exact this) c_o.out))|(dsimp only;exact Nat.ne_of_lt (Nat.lt_of_lt_of_le (by have:=World.block_lt_of_cell? _ _ b_Y;first|rwa [add_block] at this|exact this) c_o.out))) _).trans (hHeld.2.2.1)))),((cell_far (p:=⟨b_5,_,none⟩) (by first|exact Nat.ne_of_lt (Nat.lt_of_lt_of_le (by have:=World.block_lt_of_cell? _ _ b_Z;first|rwa [add_block] at this|exact this) c_o.out)|(rw [add_block];exact Nat.ne_of_lt (Nat.lt_of_lt_of_le (by have:=World.block_lt_of_cell? _ _ b_Z;first|rwa [add_block] at this|exact this) c_o.out))|(show (Addr.add _ _).block ≠ _;rw [add_block];exact Nat.ne_of_lt (Nat.lt_of_lt_of_le (by have:=World.block_lt_of_cell? _ _ b_Z;first|rwa [add_block] at this|exact this) c_o.out))|(dsimp only;exact Nat.ne_of_lt (Nat.lt_of_lt_of_le (by have:=World.block_lt_of_cell? _ _ b_Z;first|rwa [add_block] at this|exact this) c_o.out))) _).trans (((cell_far (p:=⟨b_5,_,none⟩) (by first|exact Nat.ne_of_lt (Nat.lt_of_lt_of_le (by have:=World.block_lt_of_cell? _ _ b_Z;first|rwa [add_block] at this|exact this) c_o.out)|(rw [add_block];exact Nat.ne_of_lt (Nat.lt_of_lt_of_le (by have:=World.block_lt_of_cell? _ _ b_Z;first|rwa [add_block] at this|exact this) c_o.out))|(show (Addr.add _ _).block ≠ _;rw [add_block];exact Nat.ne_of_lt (Nat.lt_of_lt_of_le (by have:=World.block_lt_of_cell? _ _ b_Z;first|rwa [add_block] at this|exact this) c_o.out))|(dsimp only;exact Nat.ne_of_lt (Nat.lt_of_lt_of_le (by have:=World.block_lt_of_cell? _ _ b_Z;first|rwa [add_block] at this|exact this) c_o.out))) _).trans (hHeld.2.2.2.1)))),((cell_far (p:=⟨b_5,_,none⟩) (by first|exact Nat.ne_of_lt (Nat.lt_of_lt_of_le (by have:=World.block_lt_of_cell? _ _ b_0;first|rwa [add_block] at this|exact this) c_o.out)|(rw [add_block];exact Nat.ne_of_lt (Nat.lt_of_lt_of_le (by have:=World.block_lt_of_cell? _ _ b_0;first|rwa [add_block] at this|exact this) c_o.out))|(show (Addr.add _ _).block ≠ _;rw [add_block];exact Nat.ne_of_lt (Nat.lt_of_lt_of_le (by have:=World.block_lt_of_cell? _ _ b_0;first|rwa [add_block] at this|exact this) c_o.out))|(dsimp only;exact Nat.ne_of_lt (Nat.lt_of_lt_of_le (by have:=World.block_lt_of_cell? _ _ b_0;first|rwa [add_block] at this|exact this) c_o.out))) _).trans (((cell_far (p:=⟨b_5,_,none⟩) (by first|exact Nat.ne_of_lt (Nat.lt_of_lt_of_le (by have:=World.block_lt_of_cell? _ _ b_0;first|rwa [add_block] at this|exact this) c_o.out)|(rw [add_block];exact Nat.ne_of_lt (Nat.lt_of_lt_of_le (by have:=World.block_lt_of_cell? _ _ b_0;first|rwa [add_block] at this|exact this) c_o.out))|(show (Addr.add _ _).block ≠ _;rw [add_block];exact Nat.ne_of_lt (Nat.lt_of_lt_of_le (by have:=World.block_lt_of_cell? _ _ b_0;first|rwa [add_block] at this|exact this) c_o.out))|(dsimp only;exact Nat.ne_of_lt (Nat.lt_of_lt_of_le (by have:=World.block_lt_of_cell? _ _ b_0;first|rwa [add_block] at this|exact this) c_o.out))) _).trans (hHeld.2.2.2.2))))⟩ (fun hHeld => ?_)
 clear hK K
 refine j_g (f_O HT_.out (by kernel_rfl)) ?_
 have r_j:=c_t.out
 have r_S:=b_R.out
 have r_k:=b_T.out
 have r_T:=b_U.out
 have h_H : w13.cell? ⟨b_4,0,none⟩ = some (.int .i64 0):=(a_k c_p.out 0).trans rfl
 have j_p : w13.cell? ⟨b_4,1,none⟩ = some (.int .i64 0):=(a_k c_p.out 1).trans rfl
 have h_P:=a_g c_p.out 0
 have j_z:=a_g c_p.out 1
 have k_m:=c_u.out
 have k_n:=b_S.out
 have h_I : w13.cell? ⟨b_5,0,none⟩ = some (.int .i64 0):=(a_k c_q.out 0).trans rfl
 have h_J : w13.cell? ⟨b_5,1,none⟩ = some (.int .i64 0):=(a_k c_q.out 1).trans rfl
 have h_Q:=a_g c_q.out 0
 have h_R:=a_g c_q.out 1
 go_upto_if 24 with (fail)
 go_cut [9] (fun v9 wc => ∃ (kq : Nat) (x9_7 : Int),v9 = .int .i64 x9_7 ∧ a_b (a_R.j0 kq a1 a2 x9_7 ((a_x l0_0 a1).f0) ((a_x l0_0 a1).f1) ((a_x l0_0 a2).f0) ((a_x l0_0 a2).f1) = some r) ∧ a_b (kq ≤ k) ∧ a_b (wc.heap[c_U]? = some (.cells #[(.slice (some ad106) l0_0.length c0_0)] 24 (0,0))) ∧ a_b (wc.heap[b_4]? = some (.cells #[.int .i64 ((a_x l0_0 a1).f0),.int .i64 ((a_x l0_0 a1).f1)] 56 (0,0))) ∧ a_b (wc.heap[b_5]? = some (.cells #[.int .i64 ((a_x l0_0 a2).f0),.int .i64 ((a_x l0_0 a2).f1)] 56 (0,0))) ∧ a_b (Below w.heap.size w wc))
 case first =>
  have H:=HC8.out
  clear HC8
  by_cases c23 : ((a_x l0_0 a1).f0) = ((a_x l0_0 a2).f0)
  ·rw [if_pos c23] at H
   have c23b0 : (((a_x l0_0 a1).f0) == ((a_x l0_0 a2).f0)) = true:=beq_iff_eq.mpr c23
   have c23b1 : (((a_x l0_0 a1).f0) != ((a_x l0_0 a2).f0)) = false:=bne_eq_false_iff_eq.mpr c23
   clear c23
   (first|rw [c23b0]|(simp only [c_c,c_b];rw [c23b0])|skip)
   have H':=a_b.mk H
   clear H
   go_wp2
   go_meet
   case rel => exact ⟨_,(2),(by first|rfl|(simp;done)|(simp [*];done)),H',⟨by first|omega|exact Nat.le_refl _⟩,⟨by (with_reducible repeat (first|refine a_o ?_ _|refine a_q ?_|refine a_n ?_ _));refine b_u ?_ b_S.out _;(with_reducible repeat (first|refine a_o ?_ _|refine a_q ?_|refine a_n ?_ _));refine b_u ?_ b_S.out _;(with_reducible repeat (first|refine a_o ?_ _|refine a_q ?_|refine a_n ?_ _));refine b_u ?_ b_R.out _;(with_reducible repeat (first|refine a_o ?_ _|refine a_q ?_|refine a_n ?_ _));refine b_u ?_ b_R.out _;(with_reducible repeat (first|refine a_o ?_ _|refine a_q ?_|refine a_n ?_ _));exact c_D.out⟩,⟨by (with_reducible repeat (first|refine a_o ?_ _|refine a_q ?_|refine a_n ?_ _));refine b_u ?_ b_T.out _;(with_reducible repeat (first|refine a_o ?_ _|refine a_q ?_|refine a_n ?_ _));refine b_u ?_ b_T.out _;(with_reducible repeat (first|refine a_o ?_ _|refine a_q ?_|refine a_n ?_ _));refine b_M (cs:=#[.int .i64 ((a_x l0_0 a1).f0),.int .i64 0]) ?_ 1 _ rfl;(with_reducible repeat (first|refine a_o ?_ _|refine a_q ?_|refine a_n ?_ _));refine b_M (cs:=#[.int .i64 0,.int .i64 0]) ?_ 0 _ rfl;(with_reducible repeat (first|refine a_o ?_ _|refine a_q ?_|refine a_n ?_ _));exact c_p.out⟩,⟨by (with_reducible repeat (first|refine a_o ?_ _|refine a_q ?_|refine a_n ?_ _));refine b_M (cs:=#[.int .i64 ((a_x l0_0 a2).f0),.int .i64 0]) ?_ 1 _ rfl;(with_reducible repeat (first|refine a_o ?_ _|refine a_q ?_|refine a_n ?_ _));refine b_M (cs:=#[.int .i64 0,.int .i64 0]) ?_ 0 _ rfl;(with_reducible repeat (first|refine a_o ?_ _|refine a_q ?_|refine a_n ?_ _));refine b_u ?_ b_U.out _;(with_reducible repeat (first|refine a_o ?_ _|refine a_q ?_|refine a_n ?_ _));refine b_u ?_ b_U.out _;(with_reducible repeat (first|refine a_o ?_ _|refine a_q ?_|refine a_n ?_ _));exact c_q.out⟩,⟨by repeat (first|(with_reducible first|exact HB.out|apply a_d|apply a_c|apply a_e|refine a_a ?_ c_6.out|refine a_a ?_ d_z.out|refine a_a ?_ d_A.out)|exact HB.out)⟩⟩
  rw [if_neg c23] at H
  have c23b0 : (((a_x l0_0 a1).f0) == ((a_x l0_0 a2).f0)) = false:=beq_eq_false_iff_ne.mpr c23
  have c23b1 : (((a_x l0_0 a1).f0) != ((a_x l0_0 a2).f0)) = true:=bne_iff_ne.mpr c23
  (first|rw [c23b0]|(simp only [c_c,c_b];rw [c23b0])|skip)
  have H':=a_b.mk H
  clear H
  go_wp2
  go_meet
  case rel => exact ⟨_,(3),(by first|rfl|(simp;done)|(simp [*];done)),H',⟨by first|omega|exact Nat.le_refl _⟩,⟨by (with_reducible repeat (first|refine a_o ?_ _|refine a_q ?_|refine a_n ?_ _));refine b_u ?_ b_S.out _;(with_reducible repeat (first|refine a_o ?_ _|refine a_q ?_|refine a_n ?_ _));refine b_u ?_ b_S.out _;(with_reducible repeat (first|refine a_o ?_ _|refine a_q ?_|refine a_n ?_ _));refine b_u ?_ b_R.out _;(with_reducible repeat (first|refine a_o ?_ _|refine a_q ?_|refine a_n ?_ _));refine b_u ?_ b_R.out _;(with_reducible repeat (first|refine a_o ?_ _|refine a_q ?_|refine a_n ?_ _));exact c_D.out⟩,⟨by (with_reducible repeat (first|refine a_o ?_ _|refine a_q ?_|refine a_n ?_ _));refine b_u ?_ b_T.out _;(with_reducible repeat (first|refine a_o ?_ _|refine a_q ?_|refine a_n ?_ _));refine b_u ?_ b_T.out _;(with_reducible repeat (first|refine a_o ?_ _|refine a_q ?_|refine a_n ?_ _));refine b_M (cs:=#[.int .i64 ((a_x l0_0 a1).f0),.int .i64 0]) ?_ 1 _ rfl;(with_reducible repeat (first|refine a_o ?_ _|refine a_q ?_|refine a_n ?_ _));refine b_M (cs:=#[.int .i64 0,.int .i64 0]) ?_ 0 _ rfl;(with_reducible repeat (first|refine a_o ?_ _|refine a_q ?_|refine a_n ?_ _));exact c_p.out⟩,⟨by (with_reducible repeat (first|refine a_o ?_ _|refine a_q ?_|refine a_n ?_ _));refine b_M (cs:=#[.int .i64 ((a_x l0_0 a2).f0),.int .i64 0]) ?_ 1 _ rfl;(with_reducible repeat (first|refine a_o ?_ _|refine a_q ?_|refine a_n ?_ _));refine b_M (cs:=#[.int .i64 0,.int .i64 0]) ?_ 0 _ rfl;(with_reducible repeat (first|refine a_o ?_ _|refine a_q ?_|refine a_n ?_ _));refine b_u ?_ b_U.out _;(with_reducible repeat (first|refine a_o ?_ _|refine a_q ?_|refine a_n ?_ _));refine b_u ?_ b_U.out _;(with_reducible repeat (first|refine a_o ?_ _|refine a_q ?_|refine a_n ?_ _));exact c_q.out⟩,⟨by repeat (first|(with_reducible first|exact HB.out|apply a_d|apply a_c|apply a_e|refine a_a ?_ c_6.out|refine a_a ?_ d_z.out|refine a_a ?_ d_A.out)|exact HB.out)⟩⟩
 case rest =>
  clear HC8
  try clear c1
  try clear p1
  try clear q1
  try clear hx1
  try clear c2
  try clear p2
  try clear c4
  try clear c4b0
  try clear c5
  try clear c5b0
  try clear c6
  try clear c6b0
  try clear c7
  try clear c7b0
  try clear p10
  try clear q10
  try clear hx10
  try clear c18
  try clear c19
  try clear c21
  try clear c23
  try clear c23b0
  try clear c23b1
  try clear h_H
  try clear j_p
  try clear h_I
  try clear h_J
  try clear h_P
  try clear j_z
  try clear h_Q
  try clear h_R
  try clear d_T
  try clear d_U
  try clear d_V
  try clear d_W
  try clear p106
  try clear p107
  try clear q106
  try clear q107
  obtain ⟨kq,x9_7,rfl,HA,HJ7,c_D,c_p,c_q,HB⟩:=hcut
  cases kq with
  | zero => exact absurd HA.out (by simp [a_R.j0])
  | succ kj7 =>
   have H:=HA.out
   clear HA
   simp only [a_R.j0] at H
   by_cases c24 : (((a_x l0_0 a1).f0) == ((a_x l0_0 a2).f0) && (((a_x l0_0 a1).f1) == ((a_x l0_0 a2).f1))) = true
   ·rw [if_pos c24] at H
    have c24b0 : (((a_x l0_0 a1).f0) == ((a_x l0_0 a2).f0) && (((a_x l0_0 a1).f1) == ((a_x l0_0 a2).f1))) = true:=c24
    (try (have c24b1 : decide (((a_x l0_0 a1).f0) = ((a_x l0_0 a2).f0) && (((a_x l0_0 a1).f1) == ((a_x l0_0 a2).f1))) = true:=by simpa using c24))
    (try (have c24b2 : (((a_x l0_0 a1).f0) == ((a_x l0_0 a2).f0) && (((a_x l0_0 a1).f1) == ((a_x l0_0 a2).f1))) = true:=by simpa using c24))
    clear c24
    by_cases c25 : a1 = a2
    ·rw [if_pos c25] at H
     have c25b0 : (a1 == a2) = true:=beq_iff_eq.mpr c25
     have c25b1 : (a1 != a2) = false:=bne_eq_false_iff_eq.mpr c25
     clear c25
     obtain rfl:=Option.some.inj H
     have r_n:=c_t.out
     have r_W:=b_R.out
     have r_o:=b_T.out
     have r_X:=b_U.out
     have f_T : wc.cell? ⟨b_4,0,none⟩ = some (.int .i64 ((a_x l0_0 a1).f0)):=(a_k c_p.out 0).trans rfl
     have n_w : wc.cell? ⟨b_4,1,none⟩ = some (.int .i64 ((a_x l0_0 a1).f1)):=(a_k c_p.out 1).trans rfl
     have g_h:=a_g c_p.out 0
     have n_S:=a_g c_p.out 1
     have r_p:=c_u.out
     have r_Y:=b_S.out
     have j_r : wc.cell? ⟨b_5,0,none⟩ = some (.int .i64 ((a_x l0_0 a2).f0)):=(a_k c_q.out 0).trans rfl
     have n_x : wc.cell? ⟨b_5,1,none⟩ = some (.int .i64 ((a_x l0_0 a2).f1)):=(a_k c_q.out 1).trans rfl
     have j_B:=a_g c_q.out 0
     have n_T:=a_g c_q.out 1
     go_wp2
     go_ret
     exact ⟨by first|rfl|(simp [a_t,a_u] <;> rfl)|(simp [*, a_t,a_u] <;> rfl),by repeat (first|(with_reducible first|exact HB.out|apply a_d|apply a_c|apply a_e|refine a_a ?_ c_6.out|refine a_a ?_ d_z.out|refine a_a ?_ d_A.out)|exact HB.out)⟩
    rw [if_neg c25] at H
    have c25b0 : (a1 == a2) = false:=beq_eq_false_iff_ne.mpr c25
    have c25b1 : (a1 != a2) = true:=bne_iff_ne.mpr c25
    obtain rfl:=Option.some.inj H
    have n_9:=c_t.out
    have o_f:=b_R.out
    have o_a:=b_T.out
    have o_g:=b_U.out
    have h_M : wc.cell? ⟨b_4,0,none⟩ = some (.int .i64 ((a_x l0_0 a1).f0)):=(a_k c_p.out 0).trans rfl
    have n_y : wc.cell? ⟨b_4,1,none⟩ = some (.int .i64 ((a_x l0_0 a1).f1)):=(a_k c_p.out 1).trans rfl
    have h_U:=a_g c_p.out 0
    have n_U:=a_g c_p.out 1
    have r_r:=c_u.out
    have r_0:=b_S.out
    have j_s : wc.cell? ⟨b_5,0,none⟩ = some (.int .i64 ((a_x l0_0 a2).f0)):=(a_k c_q.out 0).trans rfl
    have n_z : wc.cell? ⟨b_5,1,none⟩ = some (.int .i64 ((a_x l0_0 a2).f1)):=(a_k c_q.out 1).trans rfl
    have j_C:=a_g c_q.out 0
    have n_V:=a_g c_q.out 1
    go_wp2
    go_ret
    exact ⟨by first|rfl|(simp [a_t,a_u] <;> rfl)|(simp [*, a_t,a_u] <;> rfl),by repeat (first|(with_reducible first|exact HB.out|apply a_d|apply a_c|apply a_e|refine a_a ?_ c_6.out|refine a_a ?_ d_z.out|refine a_a ?_ d_A.out)|exact HB.out)⟩
   rw [if_neg c24] at H
   have c24b0 : (((a_x l0_0 a1).f0) == ((a_x l0_0 a2).f0) && (((a_x l0_0 a1).f1) == ((a_x l0_0 a2).f1))) = false:=by simpa using c24
   (try (have c24b1 : decide (((a_x l0_0 a1).f0) = ((a_x l0_0 a2).f0) && (((a_x l0_0 a1).f1) == ((a_x l0_0 a2).f1))) = false:=by simpa using c24))
   (try (have c24b2 : (((a_x l0_0 a1).f0) == ((a_x l0_0 a2).f0) && (((a_x l0_0 a1).f1) == ((a_x l0_0 a2).f1))) = false:=by simpa using c24))
   (try (have c24b3 : ¬ (((a_x l0_0 a1).f0) = ((a_x l0_0 a2).f0) && (((a_x l0_0 a1).f1) == ((a_x l0_0 a2).f1))):=by simpa using c24))
   clear c24
   by_cases c36 : a1 = a2
   ·rw [if_pos c36] at H
    have c36b0 : (a1 == a2) = true:=beq_iff_eq.mpr c36
    have c36b1 : (a1 != a2) = false:=bne_eq_false_iff_eq.mpr c36
    clear c36
    obtain rfl:=Option.some.inj H
    have r_u:=c_t.out
    have r_3:=b_R.out
    have o_b:=b_T.out
    have o_h:=b_U.out
    have e_6 : wc.cell? ⟨b_4,0,none⟩ = some (.int .i64 ((a_x l0_0 a1).f0)):=(a_k c_p.out 0).trans rfl
    have n_A : wc.cell? ⟨b_4,1,none⟩ = some (.int .i64 ((a_x l0_0 a1).f1)):=(a_k c_p.out 1).trans rfl
    have f_b:=a_g c_p.out 0
    have n_W:=a_g c_p.out 1
    have r_v:=c_u.out
    have r_4:=b_S.out
    have j_t : wc.cell? ⟨b_5,0,none⟩ = some (.int .i64 ((a_x l0_0 a2).f0)):=(a_k c_q.out 0).trans rfl
    have n_B : wc.cell? ⟨b_5,1,none⟩ = some (.int .i64 ((a_x l0_0 a2).f1)):=(a_k c_q.out 1).trans rfl
    have j_D:=a_g c_q.out 0
    have n_X:=a_g c_q.out 1
    go_wp2
    go_ret
    exact ⟨by first|rfl|(simp [a_t,a_u] <;> rfl)|(simp [*, a_t,a_u] <;> rfl),by repeat (first|(with_reducible first|exact HB.out|apply a_d|apply a_c|apply a_e|refine a_a ?_ c_6.out|refine a_a ?_ d_z.out|refine a_a ?_ d_A.out)|exact HB.out)⟩
   rw [if_neg c36] at H
   have c36b0 : (a1 == a2) = false:=beq_eq_false_iff_ne.mpr c36
   have c36b1 : (a1 != a2) = true:=bne_iff_ne.mpr c36
   obtain rfl:=Option.some.inj H
   have r_w:=c_t.out
   have r_5:=b_R.out
   have r_x:=b_T.out
   have r_6:=b_U.out
   have n_D : wc.cell? ⟨b_4,0,none⟩ = some (.int .i64 ((a_x l0_0 a1).f0)):=(a_k c_p.out 0).trans rfl
   have n_E : wc.cell? ⟨b_4,1,none⟩ = some (.int .i64 ((a_x l0_0 a1).f1)):=(a_k c_p.out 1).trans rfl
   have n_Z:=a_g c_p.out 0
   have n_0:=a_g c_p.out 1
   have o_c:=c_u.out
   have o_i:=b_S.out
   have n_F : wc.cell? ⟨b_5,0,none⟩ = some (.int .i64 ((a_x l0_0 a2).f0)):=(a_k c_q.out 0).trans rfl
   have n_G : wc.cell? ⟨b_5,1,none⟩ = some (.int .i64 ((a_x l0_0 a2).f1)):=(a_k c_q.out 1).trans rfl
   have n_1:=a_g c_q.out 0
   have n_2:=a_g c_q.out 1
   go_wp2
   go_ret
   exact ⟨by first|rfl|(simp [a_t,a_u] <;> rfl)|(simp [*, a_t,a_u] <;> rfl),by repeat (first|(with_reducible first|exact HB.out|apply a_d|apply a_c|apply a_e|refine a_a ?_ c_6.out|refine a_a ?_ d_z.out|refine a_a ?_ d_A.out)|exact HB.out)⟩
end Go.Proofs.YtcpfcehfgenljaaDoor.Q
end
section
namespace Go.Proofs.YtcpfcehfgenljaaDoor.Q
open Go.RowKit Go.Proofs.YtcpfcehfgenljaaDoorW.PrintWords Go.Proofs.YtcpfcehfgenljaaDoorW.PrintLast Go.Proofs.YtcpfcehfgenljaaDoorW.PrintMore
set_option linter.unusedVariables false
set_option linter.unusedSimpArgs false
def b_c.f (k : Nat) (l0_0 : List (S56)) (a1 : Int) (a2 : Int) : Option (Int × Int):=(b_L.f l0_0).bind fun t111 => (if t111 = 0 then ((b_t.f l0_0 a1).bind fun t112 => (if t112 = true then ((b_t.f l0_0 a2).bind fun t113 => (if t113 = true then ((a_R.f k l0_0 a1 a2).bind fun t114 => (some (t114,0))) else (some (0,2)))) else (some (0,2)))) else (some (0,t111)))
theorem b_c.mono : ∀ a0 a1 a2 k,LeO (b_c.f k a0 a1 a2) (b_c.f (k + 1) a0 a1 a2):=by
 intro a0 a1 a2 k
 unfold b_c.f
 repeat' first
  | (with_reducible exact a_R.mono _ _ _ _)
  | (with_reducible exact LeO.refl _)
  | (with_reducible exact LeO.none _)
  | (with_reducible refine LeO.ite ?_ ?_)
  | (with_reducible refine LeO.bind ?_ (fun _ => ?_))
  | exact a_R.mono _ _ _ _
  | exact LeO.none _
  | refine LeO.ite ?_ ?_
  | refine LeO.bind ?_ (fun _ => ?_)
set_option maxHeartbeats 8000000 in
set_option maxRecDepth 100000 in
theorem b_c.calls (k : Nat) (A0_0 : Option Addr) (c0_0 : Nat) (l0_0 : List (S56)) (a1 : Int) (a2 : Int) (r1 : Int) (r2 : Int) (w : World) (hr0_0 : Kd.C k56 w A0_0 l0_0.length l0_0) (hc0_0 : l0_0.length ≤ c0_0) (h : b_c.f k l0_0 a1 a2 = some (r1,r2)) :
 Calls Tryd.prog 17 #[.agg #[.slice A0_0 l0_0.length c0_0],.int .i64 a1,.int .i64 a2] w fun e w' => e = .returned (.tuple #[.int .i64 r1,.int .i64 r2]) ∧ Below w.heap.size w w':=by
 have hu24:=Tryd.underlying24
 have b_l:=a_b.mk hr0_0
 have c_h:=a_b.mk hc0_0
 clear hr0_0 hc0_0
 have HB:=a_b.mk (Below.refl w.heap.size w)
 have H : ((b_L.f l0_0).bind fun t111 => (if t111 = 0 then ((b_t.f l0_0 a1).bind fun t112 => (if t112 = true then ((b_t.f l0_0 a2).bind fun t113 => (if t113 = true then ((a_R.f k l0_0 a1 a2).bind fun t114 => (some (t114,0))) else (some (0,2)))) else (some (0,2)))) else (some (0,t111)))) = some (r1,r2):=h
 clear h
 replace H:=Option.bind_eq_some_iff.mp H
 obtain ⟨t111,A40,H⟩:=H
 replace H : (if t111 = 0 then ((b_t.f l0_0 a1).bind fun t112 => (if t112 = true then ((b_t.f l0_0 a2).bind fun t113 => (if t113 = true then ((a_R.f k l0_0 a1 a2).bind fun t114 => (some (t114,0))) else (some (0,2)))) else (some (0,2)))) else (some (0,t111))) = some (r1,r2):=H
 have A4:=a_b.mk A40
 clear A40
 by_cases c5 : t111 = 0
 rotate_left
 ·rw [if_neg c5] at H
  have c5b0 : (t111 == 0) = false:=beq_eq_false_iff_ne.mpr c5
  have c5b1 : (t111 != 0) = true:=bne_iff_ne.mpr c5
  simp only [Option.some.injEq,Prod.mk.injEq] at H
  obtain ⟨rfl,rfl⟩:=H
  go_enter Tryd.func17,Tryd.ntmps17
  go_wp2_with (first|((with_reducible refine a_J (N:=3) rfl ?_);refine a_F ?hg (N:=3) ?hd (cs:=#[.slice A0_0 l0_0.length c0_0]) (t:=24) ?hr ?_;(case hd => rfl);(case hg => rfl);(case hr => first|(go_simp;done)|(go_simp;rfl));intro c_3 hg w32 hbox hb;have b_6:=a_b.mk (hbox);have i_8:=a_b.mk ((by rw [hg];exact (a_i (lup_ HB.out)) : w.heap.size ≤ c_3));have d_h:=a_b.mk ((by rw [hg];exact (a_i (lup_ HB.out)) : w.heap.size ≤ c_3));replace HB:=a_b.mk (a_l (lup_ HB.out) hb);clear hb hbox hg;have h_M : w32.cell? ⟨c_3,0,none⟩ = some (.slice A0_0 l0_0.length c0_0):=(a_k b_6.out 0).trans rfl;have h_U:=a_g b_6.out 0)|((with_reducible refine a_y (f:=28) rfl ?_);refine a_5 (some 10) rfl rfl Tryd.func28 (by kernel_rfl) rfl #[.agg #[.slice A0_0 l0_0.length c0_0]] rfl (by (try simp only [List.map_toArray,List.map_cons,List.map_nil]);first|done|rfl|(simp only [List.length_drop,List.length_take];rfl)) ?_;(with_reducible refine (b_L.calls _ _ l0_0 t111 _ ?side1 ?side2 A4.out).mono ?_);(case side1 => repeat (first|exact (Kd.b_d b_l.out HB.out)|(with_reducible refine Kd.a_N ?_ _)|(with_reducible refine Kd.a_O ?_ _)|(with_reducible refine Kd.a_8 ?_)));(case side2 => exact c_h.out);rintro e w34 ⟨rfl,hb⟩;refine ⟨_,rfl,?_⟩;replace b_6:=a_b.mk (a_h (bup_ b_6.out) hb);replace HB:=a_b.mk (a_l (by repeat (first|(with_reducible first|exact HB.out|apply a_d|apply a_c|apply a_e|refine a_a ?_ d_h.out)|exact HB.out)) hb);(try clear hb);(try clear hb2);(try clear hk);(try clear hi)))
  go_ret2
  exact ⟨by first|rfl|(simp [a_t,a_u] <;> rfl)|(simp [*, a_t,a_u] <;> rfl),by repeat (first|(with_reducible first|exact HB.out|apply a_d|apply a_c|apply a_e|refine a_a ?_ d_h.out)|exact HB.out)⟩
 rw [if_pos c5] at H
 have c5b0 : (t111 == 0) = true:=beq_iff_eq.mpr c5
 have c5b1 : (t111 != 0) = false:=bne_eq_false_iff_eq.mpr c5
 clear c5
 replace H:=Option.bind_eq_some_iff.mp H
 obtain ⟨t112,A60,H⟩:=H
 replace H : (if t112 = true then ((b_t.f l0_0 a2).bind fun t113 => (if t113 = true then ((a_R.f k l0_0 a1 a2).bind fun t114 => (some (t114,0))) else (some (0,2)))) else (some (0,2))) = some (r1,r2):=H
 have A6:=a_b.mk A60
 clear A60
 by_cases c7 : t112 = true
 rotate_left
 ·replace c7:=Bool.eq_false_iff.mpr c7
  subst c7
  have H1 : (some (0,2)) = some (r1,r2):=by rw [if_neg (show ¬ (false = true) by decide)] at H;exact H
  clear H
  have H:=H1
  clear H1
  simp only [Option.some.injEq,Prod.mk.injEq] at H
  obtain ⟨rfl,rfl⟩:=H
  go_enter Tryd.func17,Tryd.ntmps17
  go_wp2_with (first|((with_reducible refine a_J (N:=3) rfl ?_);refine a_F ?hg (N:=3) ?hd (cs:=#[.slice A0_0 l0_0.length c0_0]) (t:=24) ?hr ?_;(case hd => rfl);(case hg => rfl);(case hr => first|(go_simp;done)|(go_simp;rfl));intro c_3 hg w27 hbox hb;have b_6:=a_b.mk (hbox);have i_8:=a_b.mk ((by rw [hg];exact (a_i (lup_ HB.out)) : w.heap.size ≤ c_3));have d_h:=a_b.mk ((by rw [hg];exact (a_i (lup_ HB.out)) : w.heap.size ≤ c_3));replace HB:=a_b.mk (a_l (lup_ HB.out) hb);clear hb hbox hg;have f_T : w27.cell? ⟨c_3,0,none⟩ = some (.slice A0_0 l0_0.length c0_0):=(a_k b_6.out 0).trans rfl;have g_h:=a_g b_6.out 0)|((with_reducible refine a_y (f:=28) rfl ?_);refine a_5 (some 10) rfl rfl Tryd.func28 (by kernel_rfl) rfl #[.agg #[.slice A0_0 l0_0.length c0_0]] rfl (by (try simp only [List.map_toArray,List.map_cons,List.map_nil]);first|done|rfl|(simp only [List.length_drop,List.length_take];rfl)) ?_;(with_reducible refine (b_L.calls _ _ l0_0 t111 _ ?side1 ?side2 A4.out).mono ?_);(case side1 => repeat (first|exact (Kd.b_d b_l.out HB.out)|(with_reducible refine Kd.a_N ?_ _)|(with_reducible refine Kd.a_O ?_ _)|(with_reducible refine Kd.a_8 ?_)));(case side2 => exact c_h.out);rintro e w29 ⟨rfl,hb⟩;refine ⟨_,rfl,?_⟩;replace b_6:=a_b.mk (a_h (bup_ b_6.out) hb);replace HB:=a_b.mk (a_l (by repeat (first|(with_reducible first|exact HB.out|apply a_d|apply a_c|apply a_e|refine a_a ?_ d_h.out)|exact HB.out)) hb);(try clear hb);(try clear hb2);(try clear hk);(try clear hi);have j_r : w29.cell? ⟨c_3,0,none⟩ = some (.slice A0_0 l0_0.length c0_0):=(a_k b_6.out 0).trans rfl;have j_B:=a_g b_6.out 0)|((with_reducible refine a_y (f:=39) rfl ?_);refine a_5 (some 16) rfl rfl Tryd.func39 (by kernel_rfl) rfl #[.agg #[.slice A0_0 l0_0.length c0_0],.int .i64 a1] rfl (by (try simp only [List.map_toArray,List.map_cons,List.map_nil]);first|done|rfl|(simp only [List.length_drop,List.length_take];rfl)) ?_;(with_reducible refine (b_t.calls _ _ l0_0 a1 false _ ?side1 ?side2 A6.out).mono ?_);(case side1 => repeat (first|exact (Kd.b_d b_l.out HB.out)|(with_reducible refine Kd.a_N ?_ _)|(with_reducible refine Kd.a_O ?_ _)|(with_reducible refine Kd.a_8 ?_)));(case side2 => exact c_h.out);rintro e w31 ⟨rfl,hb⟩;refine ⟨_,rfl,?_⟩;replace b_6:=a_b.mk (a_h (bup_ b_6.out) hb);replace HB:=a_b.mk (a_l (by repeat (first|(with_reducible first|exact HB.out|apply a_d|apply a_c|apply a_e|refine a_a ?_ d_h.out)|exact HB.out)) hb);(try clear hb);(try clear hb2);(try clear hk);(try clear hi)))
  go_ret2
  exact ⟨by first|rfl|(simp [a_t,a_u] <;> rfl)|(simp [*, a_t,a_u] <;> rfl),by repeat (first|(with_reducible first|exact HB.out|apply a_d|apply a_c|apply a_e|refine a_a ?_ d_h.out)|exact HB.out)⟩
 subst c7
 have H1 : ((b_t.f l0_0 a2).bind fun t113 => (if t113 = true then ((a_R.f k l0_0 a1 a2).bind fun t114 => (some (t114,0))) else (some (0,2)))) = some (r1,r2):=by rw [if_pos rfl] at H;exact H
 clear H
 have H:=H1
 clear H1
 replace H:=Option.bind_eq_some_iff.mp H
 obtain ⟨t113,A80,H⟩:=H
 replace H : (if t113 = true then ((a_R.f k l0_0 a1 a2).bind fun t114 => (some (t114,0))) else (some (0,2))) = some (r1,r2):=H
 have A8:=a_b.mk A80
 clear A80
 by_cases c9 : t113 = true
 rotate_left
 ·replace c9:=Bool.eq_false_iff.mpr c9
  subst c9
  have H1 : (some (0,2)) = some (r1,r2):=by rw [if_neg (show ¬ (false = true) by decide)] at H;exact H
  clear H
  have H:=H1
  clear H1
  simp only [Option.some.injEq,Prod.mk.injEq] at H
  obtain ⟨rfl,rfl⟩:=H
  go_enter Tryd.func17,Tryd.ntmps17
  go_wp2_with (first|((with_reducible refine a_J (N:=3) rfl ?_);refine a_F ?hg (N:=3) ?hd (cs:=#[.slice A0_0 l0_0.length c0_0]) (t:=24) ?hr ?_;(case hd => rfl);(case hg => rfl);(case hr => first|(go_simp;done)|(go_simp;rfl));intro c_3 hg w20 hbox hb;have b_6:=a_b.mk (hbox);have i_8:=a_b.mk ((by rw [hg];exact (a_i (lup_ HB.out)) : w.heap.size ≤ c_3));have d_h:=a_b.mk ((by rw [hg];exact (a_i (lup_ HB.out)) : w.heap.size ≤ c_3));replace HB:=a_b.mk (a_l (lup_ HB.out) hb);clear hb hbox hg;have n_t : w20.cell? ⟨c_3,0,none⟩ = some (.slice A0_0 l0_0.length c0_0):=(a_k b_6.out 0).trans rfl;have n_P:=a_g b_6.out 0)|((with_reducible refine a_y (f:=28) rfl ?_);refine a_5 (some 10) rfl rfl Tryd.func28 (by kernel_rfl) rfl #[.agg #[.slice A0_0 l0_0.length c0_0]] rfl (by (try simp only [List.map_toArray,List.map_cons,List.map_nil]);first|done|rfl|(simp only [List.length_drop,List.length_take];rfl)) ?_;(with_reducible refine (b_L.calls _ _ l0_0 t111 _ ?side1 ?side2 A4.out).mono ?_);(case side1 => repeat (first|exact (Kd.b_d b_l.out HB.out)|(with_reducible refine Kd.a_N ?_ _)|(with_reducible refine Kd.a_O ?_ _)|(with_reducible refine Kd.a_8 ?_)));(case side2 => exact c_h.out);rintro e w22 ⟨rfl,hb⟩;refine ⟨_,rfl,?_⟩;replace b_6:=a_b.mk (a_h (bup_ b_6.out) hb);replace HB:=a_b.mk (a_l (by repeat (first|(with_reducible first|exact HB.out|apply a_d|apply a_c|apply a_e|refine a_a ?_ d_h.out)|exact HB.out)) hb);(try clear hb);(try clear hb2);(try clear hk);(try clear hi);have d_m : w22.cell? ⟨c_3,0,none⟩ = some (.slice A0_0 l0_0.length c0_0):=(a_k b_6.out 0).trans rfl;have d_p:=a_g b_6.out 0)|((with_reducible refine a_y (f:=39) rfl ?_);refine a_5 (some 16) rfl rfl Tryd.func39 (by kernel_rfl) rfl #[.agg #[.slice A0_0 l0_0.length c0_0],.int .i64 a1] rfl (by (try simp only [List.map_toArray,List.map_cons,List.map_nil]);first|done|rfl|(simp only [List.length_drop,List.length_take];rfl)) ?_;(with_reducible refine (b_t.calls _ _ l0_0 a1 true _ ?side1 ?side2 A6.out).mono ?_);(case side1 => repeat (first|exact (Kd.b_d b_l.out HB.out)|(with_reducible refine Kd.a_N ?_ _)|(with_reducible refine Kd.a_O ?_ _)|(with_reducible refine Kd.a_8 ?_)));(case side2 => exact c_h.out);rintro e w24 ⟨rfl,hb⟩;refine ⟨_,rfl,?_⟩;replace b_6:=a_b.mk (a_h (bup_ b_6.out) hb);replace HB:=a_b.mk (a_l (by repeat (first|(with_reducible first|exact HB.out|apply a_d|apply a_c|apply a_e|refine a_a ?_ d_h.out)|exact HB.out)) hb);(try clear hb);(try clear hb2);(try clear hk);(try clear hi);have h_L : w24.cell? ⟨c_3,0,none⟩ = some (.slice A0_0 l0_0.length c0_0):=(a_k b_6.out 0).trans rfl;have h_T:=a_g b_6.out 0)|(go_at_call 39;(with_reducible refine (b_t.calls _ _ l0_0 a2 false _ ?side1 ?side2 A8.out).mono ?_);(case side1 => repeat (first|exact (Kd.b_d b_l.out HB.out)|(with_reducible refine Kd.a_N ?_ _)|(with_reducible refine Kd.a_O ?_ _)|(with_reducible refine Kd.a_8 ?_)));(case side2 => exact c_h.out);rintro e w26 ⟨rfl,hb⟩;replace b_6:=a_b.mk (a_h (bup_ b_6.out) hb);replace HB:=a_b.mk (a_l (by repeat (first|(with_reducible first|exact HB.out|apply a_d|apply a_c|apply a_e|refine a_a ?_ d_h.out)|exact HB.out)) hb);(try clear hb);(try clear hb2);(try clear hk);(try clear hi)))
  go_ret2
  exact ⟨by first|rfl|(simp [a_t,a_u] <;> rfl)|(simp [*, a_t,a_u] <;> rfl),by repeat (first|(with_reducible first|exact HB.out|apply a_d|apply a_c|apply a_e|refine a_a ?_ d_h.out)|exact HB.out)⟩
 subst c9
 have H1 : ((a_R.f k l0_0 a1 a2).bind fun t114 => (some (t114,0))) = some (r1,r2):=by rw [if_pos rfl] at H;exact H
 clear H
 have H:=H1
 clear H1
 replace H:=Option.bind_eq_some_iff.mp H
 obtain ⟨t114,A100,H⟩:=H
 replace H : (some (t114,0)) = some (r1,r2):=H
 have A10:=a_b.mk A100
 clear A100
 simp only [Option.some.injEq,Prod.mk.injEq] at H
 obtain ⟨rfl,rfl⟩:=H
 go_enter Tryd.func17,Tryd.ntmps17
 go_wp2_with (first|((with_reducible refine a_J (N:=3) rfl ?_);refine a_F ?hg (N:=3) ?hd (cs:=#[.slice A0_0 l0_0.length c0_0]) (t:=24) ?hr ?_;(case hd => rfl);(case hg => rfl);(case hr => first|(go_simp;done)|(go_simp;rfl));intro c_3 hg w11 hbox hb;have b_6:=a_b.mk (hbox);have i_8:=a_b.mk ((by rw [hg];exact (a_i (lup_ HB.out)) : w.heap.size ≤ c_3));have d_h:=a_b.mk ((by rw [hg];exact (a_i (lup_ HB.out)) : w.heap.size ≤ c_3));replace HB:=a_b.mk (a_l (lup_ HB.out) hb);clear hb hbox hg;have e_4 : w11.cell? ⟨c_3,0,none⟩ = some (.slice A0_0 l0_0.length c0_0):=(a_k b_6.out 0).trans rfl;have e_9:=a_g b_6.out 0)|((with_reducible refine a_y (f:=28) rfl ?_);refine a_5 (some 10) rfl rfl Tryd.func28 (by kernel_rfl) rfl #[.agg #[.slice A0_0 l0_0.length c0_0]] rfl (by (try simp only [List.map_toArray,List.map_cons,List.map_nil]);first|done|rfl|(simp only [List.length_drop,List.length_take];rfl)) ?_;(with_reducible refine (b_L.calls _ _ l0_0 t111 _ ?side1 ?side2 A4.out).mono ?_);(case side1 => repeat (first|exact (Kd.b_d b_l.out HB.out)|(with_reducible refine Kd.a_N ?_ _)|(with_reducible refine Kd.a_O ?_ _)|(with_reducible refine Kd.a_8 ?_)));(case side2 => exact c_h.out);rintro e w13 ⟨rfl,hb⟩;refine ⟨_,rfl,?_⟩;replace b_6:=a_b.mk (a_h (bup_ b_6.out) hb);replace HB:=a_b.mk (a_l (by repeat (first|(with_reducible first|exact HB.out|apply a_d|apply a_c|apply a_e|refine a_a ?_ d_h.out)|exact HB.out)) hb);(try clear hb);(try clear hb2);(try clear hk);(try clear hi);have h_F : w13.cell? ⟨c_3,0,none⟩ = some (.slice A0_0 l0_0.length c0_0):=(a_k b_6.out 0).trans rfl;have h_N:=a_g b_6.out 0)|((with_reducible refine a_y (f:=39) rfl ?_);refine a_5 (some 16) rfl rfl Tryd.func39 (by kernel_rfl) rfl #[.agg #[.slice A0_0 l0_0.length c0_0],.int .i64 a1] rfl (by (try simp only [List.map_toArray,List.map_cons,List.map_nil]);first|done|rfl|(simp only [List.length_drop,List.length_take];rfl)) ?_;(with_reducible refine (b_t.calls _ _ l0_0 a1 true _ ?side1 ?side2 A6.out).mono ?_);(case side1 => repeat (first|exact (Kd.b_d b_l.out HB.out)|(with_reducible refine Kd.a_N ?_ _)|(with_reducible refine Kd.a_O ?_ _)|(with_reducible refine Kd.a_8 ?_)));(case side2 => exact c_h.out);rintro e w15 ⟨rfl,hb⟩;refine ⟨_,rfl,?_⟩;replace b_6:=a_b.mk (a_h (bup_ b_6.out) hb);replace HB:=a_b.mk (a_l (by repeat (first|(with_reducible first|exact HB.out|apply a_d|apply a_c|apply a_e|refine a_a ?_ d_h.out)|exact HB.out)) hb);(try clear hb);(try clear hb2);(try clear hk);(try clear hi);have e_5 : w15.cell? ⟨c_3,0,none⟩ = some (.slice A0_0 l0_0.length c0_0):=(a_k b_6.out 0).trans rfl;have f_a:=a_g b_6.out 0)|(go_at_call 39;(with_reducible refine (b_t.calls _ _ l0_0 a2 true _ ?side1 ?side2 A8.out).mono ?_);(case side1 => repeat (first|exact (Kd.b_d b_l.out HB.out)|(with_reducible refine Kd.a_N ?_ _)|(with_reducible refine Kd.a_O ?_ _)|(with_reducible refine Kd.a_8 ?_)));(case side2 => exact c_h.out);rintro e w17 ⟨rfl,hb⟩;replace b_6:=a_b.mk (a_h (bup_ b_6.out) hb);replace HB:=a_b.mk (a_l (by repeat (first|(with_reducible first|exact HB.out|apply a_d|apply a_c|apply a_e|refine a_a ?_ d_h.out)|exact HB.out)) hb);(try clear hb);(try clear hb2);(try clear hk);(try clear hi);have h_G : w17.cell? ⟨c_3,0,none⟩ = some (.slice A0_0 l0_0.length c0_0):=(a_k b_6.out 0).trans rfl;have h_O:=a_g b_6.out 0)|((with_reducible refine a_y (f:=40) rfl ?_);refine a_5 (some 27) rfl rfl Tryd.func40 (by kernel_rfl) rfl #[.agg #[.slice A0_0 l0_0.length c0_0],.int .i64 a1,.int .i64 a2] rfl (by (try simp only [List.map_toArray,List.map_cons,List.map_nil]);first|done|rfl|(simp only [List.length_drop,List.length_take];rfl)) ?_;(with_reducible refine (a_R.calls k _ _ l0_0 a1 a2 t114 _ ?side1 ?side2 A10.out).mono ?_);(case side1 => repeat (first|exact (Kd.b_d b_l.out HB.out)|(with_reducible refine Kd.a_N ?_ _)|(with_reducible refine Kd.a_O ?_ _)|(with_reducible refine Kd.a_8 ?_)));(case side2 => exact c_h.out);rintro e w19 ⟨rfl,hb⟩;refine ⟨_,rfl,?_⟩;replace b_6:=a_b.mk (a_h (bup_ b_6.out) hb);replace HB:=a_b.mk (a_l (by repeat (first|(with_reducible first|exact HB.out|apply a_d|apply a_c|apply a_e|refine a_a ?_ d_h.out)|exact HB.out)) hb);(try clear hb);(try clear hb2);(try clear hk);(try clear hi)))
 go_ret2
 exact ⟨by first|rfl|(simp [a_t,a_u] <;> rfl)|(simp [*, a_t,a_u] <;> rfl),by repeat (first|(with_reducible first|exact HB.out|apply a_d|apply a_c|apply a_e|refine a_a ?_ d_h.out)|exact HB.out)⟩
end Go.Proofs.YtcpfcehfgenljaaDoor.Q
end
section
namespace Go.Proofs.YtcpfcehfgenljaaDoor.Q
open Go.RowKit Go.Proofs.YtcpfcehfgenljaaDoorW.PrintWords Go.Proofs.YtcpfcehfgenljaaDoorW.PrintLast Go.Proofs.YtcpfcehfgenljaaDoorW.PrintMore
set_option linter.unusedVariables false
set_option linter.unusedSimpArgs false
def c_W.f (a0 : Int) : Option (Int):=if a0 < 0 then (some 0) else (if a0 ≥ 8 then (some 0) else (if 0 ≤ a0 then (some (shl .u32 1 a0)) else (none)))
set_option maxHeartbeats 8000000 in
set_option maxRecDepth 100000 in
theorem c_W.calls (a0 : Int) (r : Int) (w : World) (h : c_W.f a0 = some r) :
 Calls Tryd.prog 52 #[.int .i64 a0] w fun e w' => e = .returned (.int .u32 r) ∧ b_k w w':=by
 have H : (if a0 < 0 then (some 0) else (if a0 ≥ 8 then (some 0) else (if 0 ≤ a0 then (some (shl .u32 1 a0)) else (none)))) = some r:=h
 clear h
 by_cases c2 : a0 < 0
 ·rw [if_pos c2] at H
  have c2b0 : decide (a0 < 0) = true:=decide_eq_true c2
  clear c2
  obtain rfl:=Option.some.inj H
  go_enter Tryd.func52,Tryd.ntmps52
  go_wp2
  go_ret
  exact ⟨by first|rfl|(simp;done)|(simp [*];done),by repeat (first|exact b_k.refl _|apply b_k.step)⟩
 rw [if_neg c2] at H
 have c2b0 : decide (a0 < 0) = false:=decide_eq_false c2
 clear c2
 by_cases c3 : a0 ≥ 8
 ·rw [if_pos c3] at H
  have c3b0 : decide (8 ≤ a0) = true:=decide_eq_true c3
  clear c3
  obtain rfl:=Option.some.inj H
  go_enter Tryd.func52,Tryd.ntmps52
  go_wp2
  go_ret
  exact ⟨by first|rfl|(simp;done)|(simp [*];done),by repeat (first|exact b_k.refl _|apply b_k.step)⟩
 rw [if_neg c3] at H
 have c3b0 : decide (8 ≤ a0) = false:=decide_eq_false c3
 clear c3
 by_cases c4 : 0 ≤ a0
 rotate_left
 ·rw [if_neg c4] at H
  exact absurd H (by simp)
 rw [if_pos c4] at H
 have c4b0:=eq_true c4
 have c4b1 : decide (0 ≤ a0) = true:=decide_eq_true c4
 clear c4
 obtain ⟨ji5,hji5⟩ : ∃ j_ : Int,(shl .u32 1 a0) = j_:=⟨_,rfl⟩
 replace H : (some ji5) = some r:=by first|(rw [hji5] at H;exact H)|(simp only [hji5] at H ⊢; exact H)
 have hji5_ : (IntKind.u32.wrap (1 * 2 ^ min a0.toNat 32)) = ji5:=hji5
 have hji5z : a0 ≤ 32 → (IntKind.u32.wrap (1 * 2 ^ a0.toNat)) = ji5:=i_h hji5
 have hji5u : (IntKind.u32.wrap (2 ^ min a0.toNat 32)) = ji5:=by have h_:=hji5_;rw [Int.one_mul] at h_;exact h_
 have hji5v : a0 ≤ 32 → (IntKind.u32.wrap (2 ^ a0.toNat)) = ji5:=fun hle_ => by have h_:=hji5z hle_;rw [Int.one_mul] at h_;exact h_
 obtain rfl:=Option.some.inj H
 go_enter Tryd.func52,Tryd.ntmps52
 go_wp2
 go_ret
 exact ⟨by first|rfl|(simp;done)|(simp only [← hji5] <;> (first|rfl|simp))|(simp [*];done),by repeat (first|exact b_k.refl _|apply b_k.step)⟩
end Go.Proofs.YtcpfcehfgenljaaDoor.Q
end
section
namespace Go.Proofs.YtcpfcehfgenljaaDoor.Q
open Go.RowKit Go.Proofs.YtcpfcehfgenljaaDoorW.PrintWords Go.Proofs.YtcpfcehfgenljaaDoorW.PrintLast Go.Proofs.YtcpfcehfgenljaaDoorW.PrintMore
set_option linter.unusedVariables false
set_option linter.unusedSimpArgs false
def b_p.l0 : Nat → Int → List Int → Int → Int → Option (Int × Int)
 | 0,_,_,_,_ => none
 | k + 1,x4,x8,x9,x10 => if x10 < x9 then (if 0 ≤ x10 then (if x10 < (x8.length : Int) then ((c_W.f (rd x8 x10)).bind fun t116 => (if t116 = 0 then (some (0,2)) else (b_p.l0 k (Go.bits .or .u32 x4 t116) x8 x9 (wrap64 (x10 + 1))))) else (none)) else (none)) else (some (x4,0))
def b_p.f (k : Nat) (l0 : List Int) : Option (Int × Int):=b_p.l0 k 0 l0 (l0.length : Int) 0
theorem b_p.c_w : ∀ k,(∀ y0 y1 y2 y3,LeO (b_p.l0 k y0 y1 y2 y3) (b_p.l0 (k + 1) y0 y1 y2 y3))
 | 0 => fun _ _ _ _ r h => by simp [b_p.l0] at h
 | k + 1 => by
  have ih0:=b_p.c_w k
  ·intro y0 y1 y2 y3
   unfold b_p.l0
   repeat' first
   | (with_reducible exact ih0 _ _ _ _)
   | (with_reducible exact LeO.refl _)
   | (with_reducible exact LeO.none _)
   | (with_reducible refine LeO.ite ?_ ?_)
   | (with_reducible refine LeO.bind ?_ (fun _ => ?_))
   | exact ih0 _ _ _ _
   | exact LeO.none _
   | refine LeO.ite ?_ ?_
   | refine LeO.bind ?_ (fun _ => ?_)
theorem b_p.mono : ∀ a0 k,LeO (b_p.f k a0) (b_p.f (k + 1) a0):=by
 intro a0 k
 have ih0:=b_p.c_w k
 unfold b_p.f
 repeat' first
  | (with_reducible exact ih0 _ _ _ _)
  | (with_reducible exact LeO.refl _)
  | (with_reducible exact LeO.none _)
  | (with_reducible refine LeO.ite ?_ ?_)
  | (with_reducible refine LeO.bind ?_ (fun _ => ?_))
  | exact ih0 _ _ _ _
  | exact LeO.none _
  | refine LeO.ite ?_ ?_
  | refine LeO.bind ?_ (fun _ => ?_)
set_option maxHeartbeats 8000000 in
set_option maxRecDepth 100000 in
theorem b_p.calls (k : Nat) (A0 : Option Addr) (c0 : Nat) (l0 : List Int) (r1 : Int) (r2 : Int) (w : World) (hr0 : Kd.C (Kd.int .i64) w A0 l0.length l0) (hc0 : l0.length ≤ c0) (h : b_p.f k l0 = some (r1,r2)) :
 Calls Tryd.prog 32 #[.slice A0 l0.length c0] w fun e w' => e = .returned (.tuple #[.int .u32 r1,.int .i64 r2]) ∧ b_k w w':=by
 have HR0:=a_b.mk hr0
 have HC0:=a_b.mk hc0
 clear hr0 hc0
 have H : (b_p.l0 k 0 l0 (l0.length : Int) 0) = some (r1,r2):=h
 clear h
 have H':=a_b.mk H
 clear H
 go_enter Tryd.func32,Tryd.ntmps32
 go_wp2
 go_loopg [4,10] k (fun kq v4 v10 w' => ∃ (x4_1 : Int) (x10_1 : Int),v4 = .int .u32 x4_1 ∧ v10 = .int .i64 x10_1 ∧ a_b (b_p.l0 kq x4_1 l0 (l0.length : Int) x10_1 = some (r1,r2)) ∧ a_b (kq ≤ k) ∧ b_k w w')
 case atStart => exact ⟨(0),(0),(by first|rfl|(simp;done)|(simp [*];done)),(by first|rfl|(simp;done)|(simp [*];done)),H',⟨Nat.le_refl _⟩,by repeat (first|exact b_k.refl _|apply b_k.step)⟩
 case round =>
  clear H'
  obtain ⟨x4_1,x10_1,rfl,rfl,HA,HK1,⟨m1,rfl⟩⟩:=hrel
  cases gk with
  | zero => exact absurd HA.out (by simp [b_p.l0])
  | succ k1 =>
   have H:=HA.out
   clear HA
   simp only [b_p.l0] at H
   by_cases c2 : x10_1 < (l0.length : Int)
   rotate_left
   ·rw [if_neg c2] at H
    have c2b0 : decide (x10_1 < (l0.length : Int)) = false:=decide_eq_false c2
    clear c2
    simp only [Option.some.injEq,Prod.mk.injEq] at H
    obtain ⟨rfl,rfl⟩:=H
    go_wp2
    go_ret2
    exact ⟨by first|rfl|(simp;done)|(simp [*];done),by repeat (first|exact b_k.refl _|apply b_k.step)⟩
   rw [if_pos c2] at H
   have c2b0 : decide (x10_1 < (l0.length : Int)) = true:=decide_eq_true c2
   clear c2
   by_cases c3 : 0 ≤ x10_1
   rotate_left
   ·rw [if_neg c3] at H
    exact absurd H (by simp)
   rw [if_pos c3] at H
   have c3b0 : decide (0 ≤ x10_1) = true:=decide_eq_true c3
   clear c3
   by_cases c4 : x10_1 < (l0.length : Int)
   rotate_left
   ·rw [if_neg c4] at H
    exact absurd H (by simp)
   rw [if_pos c4] at H
   have c4b0 : decide (x10_1 < (l0.length : Int)) = true:=decide_eq_true c4
   clear c4
   replace H:=Option.bind_eq_some_iff.mp H
   obtain ⟨t116,A50,H⟩:=H
   replace H : (if t116 = 0 then (some (0,2)) else (b_p.l0 k1 (Go.bits .or .u32 x4_1 t116) l0 (l0.length : Int) (wrap64 (x10_1 + 1)))) = some (r1,r2):=H
   have A5:=a_b.mk A50
   clear A50
   by_cases c6 : t116 = 0
   ·rw [if_pos c6] at H
    have c6b0 : (t116 == 0) = true:=beq_iff_eq.mpr c6
    have c6b1 : (t116 != 0) = false:=bne_eq_false_iff_eq.mpr c6
    clear c6
    simp only [Option.some.injEq,Prod.mk.injEq] at H
    obtain ⟨rfl,rfl⟩:=H
    have p115 : 0 ≤ (x10_1 : Int):=of_decide_eq_true (by first|(with_reducible assumption)|assumption)
    have q115 : x10_1 < (l0.length : Int):=of_decide_eq_true (by first|(with_reducible assumption)|assumption)
    obtain ⟨ad115,e115,j_G⟩:=Kd.c_B HR0.out x10_1 p115 q115
    cases e115
    replace p115:=eq_true p115
    replace q115:=eq_true q115
    go_wp2_with (first|((with_reducible refine a_y (f:=52) rfl ?_);refine a_5 (some 15) rfl rfl Tryd.func52 (by kernel_rfl) rfl #[.int .i64 (rd l0 x10_1)] rfl (by (try simp only [List.map_toArray,List.map_cons,List.map_nil]);first|done|rfl|(simp only [List.length_drop,List.length_take];rfl)) ?_;(with_reducible refine (c_W.calls (rd l0 x10_1) t116 _ A5.out).mono ?_);rintro e w' ⟨rfl,⟨nd,rfl⟩⟩;refine ⟨_,rfl,?_⟩))
    go_ret2
    exact ⟨by first|rfl|(simp;done)|(simp [*];done),by repeat (first|exact b_k.refl _|apply b_k.step)⟩
   rw [if_neg c6] at H
   have c6b0 : (t116 == 0) = false:=beq_eq_false_iff_ne.mpr c6
   have c6b1 : (t116 != 0) = true:=bne_iff_ne.mpr c6
   have H':=a_b.mk H
   clear H
   have p115 : 0 ≤ (x10_1 : Int):=of_decide_eq_true (by first|(with_reducible assumption)|assumption)
   have q115 : x10_1 < (l0.length : Int):=of_decide_eq_true (by first|(with_reducible assumption)|assumption)
   obtain ⟨ad115,e115,j_G⟩:=Kd.c_B HR0.out x10_1 p115 q115
   cases e115
   replace p115:=eq_true p115
   replace q115:=eq_true q115
   go_wp2_with (first|((with_reducible refine a_y (f:=52) rfl ?_);refine a_5 (some 15) rfl rfl Tryd.func52 (by kernel_rfl) rfl #[.int .i64 (rd l0 x10_1)] rfl (by (try simp only [List.map_toArray,List.map_cons,List.map_nil]);first|done|rfl|(simp only [List.length_drop,List.length_take];rfl)) ?_;(with_reducible refine (c_W.calls (rd l0 x10_1) t116 _ A5.out).mono ?_);rintro e w' ⟨rfl,⟨nd,rfl⟩⟩;refine ⟨_,rfl,?_⟩))
   go_roundg k1
   case measure => have:=HK1.out;omega
   case rel => exact ⟨(Go.bits .or .u32 x4_1 t116),(wrap64 (x10_1 + 1)),(by first|rfl|(simp;done)|(simp [*];done)),(by first|rfl|(simp;done)|(simp [*];done)),H',⟨by have:=HK1.out;omega⟩,by repeat (first|exact b_k.refl _|apply b_k.step)⟩
end Go.Proofs.YtcpfcehfgenljaaDoor.Q
end
section
namespace Go.Proofs.YtcpfcehfgenljaaDoor.Q
open Go.RowKit Go.Proofs.YtcpfcehfgenljaaDoorW.PrintWords Go.Proofs.YtcpfcehfgenljaaDoorW.PrintLast Go.Proofs.YtcpfcehfgenljaaDoorW.PrintMore
set_option linter.unusedVariables false
set_option linter.unusedSimpArgs false
section
attribute [local go_sem] Oper.semAt_some
def g_K {α : Type} (F : Fence) (m : Nat) (P : Program) (gf : Nat) (lb : Array Value) (encs : α → Array Value) (Kp : World → World → Prop) (S : List α → Prop) (N : Nat) (w0 : World) : Prop :=
 ∀ (l : Nat) (J : List α → World → Prop) (W : World),Below w0.heap.size w0 W → AbidesFrom W.heap.size J →
  (∀ pre x W1,J pre W1 → pre.length < N → YieldAt F (m - 1) P l (encs x) W1 fun e W' => e = .returned (.bool true) ∧ J (pre ++ [x]) W' ∧ Kp W1 W') → J [] W →
  CallsIn F m P gf (#[.func (.yield l) #[] #[]] ++ lb) W fun e W' => (∃ v,e = .returned v) ∧ ∃ xs,S xs ∧ J xs W'
theorem e_a {F : Fence} {n : Nat} {P : Program} {α : Type} {g : Operand} {ps : Array Tmp} {assign body : Code} {Q : Exit → Act → World → Prop} {a : Act} {w : World}
 (hro : F.round = none) (h1 : 1 ≤ n) {gf : Nat} {lb : Array Value} (hg : a.eval g = .func (.func gf) #[] lb) (hFg : F.fn gf) (eg : ∀ args w,(callFunc gf args).run P w = .ok (.enter gf args) w)
 {encs : α → Array Value} {Kp : World → World → Prop} {S : List α → Prop} {N : Nat} {w0 : World} (hseq : g_K F (n - 1) P gf lb encs Kp S N w0)
 (hKt : ∀ {A B C : World}, Kp A B → Kp B C → Kp A C) (hKb : ∀ (W : World) (l : Nat) (o o' : Obj),w.heap.size ≤ l → W.heap[l]? = some o → o.isCells = false → o.isWalk = false → Kp W (W.putObj l o')) (hb0 : Below w0.heap.size w0 w) (hps : ∀ x,(encs x).size = ps.size)
 (I : List α → World → Prop) (hI : OwnFrom w.heap.size I) (h0 : I [] w) (a₁ : α → Act)
 (hassign : ∀ (l : Nat) (x : α) (W : World) (K : Act → World → Prop),K (a₁ x) W →
  assign.wpIn (F.inRound l) (n - 1 - 1) P (Exit.then K (fun _ _ _ => False)) { tmps:=(ps.zip (encs x)).foldl (fun t (p,v) => t.setIfInBounds p v) a.tmps,defers:=[] } W)
 (hbody : ∀ (l : Nat) (pre : List α) (x : α) (W : World),I pre W → pre.length < N → body.wpIn (F.inRound l) (n - 1 - 1) P (Exit.then (fun _ W' => KeepsFrom w.heap.size W W' ∧ Kp W W' ∧ I (pre ++ [x]) W') (fun _ _ _ => False)) (a₁ x) W)
 (hdone : ∀ (D : Nat) (xs : List α) (W : World),w.heap.size ≤ D → S xs → I xs W → W.heap[D]? = some (.deferred (some [])) → Q .normal { a with defers := { target:=.collected D,args:=#[] } :: a.defers } W) :
 (Code.rangeFunc g ps assign body).wpIn F n P Q a w:=by
 refine wpIn_rangeFunc fun fn hfn => ?_
 rw [hro]
 obtain ⟨rec,hrec⟩ : ∃ rec : LoopState → Option Code → Loop,rec = fun st pe => { state:=st,pending:=pe,fn,tmps:=a.tmps,params:=ps,assign,body,defers:=w.heap.size } := ⟨_,rfl⟩
 have hL0 : ((w.alloc (.deferred (some []))).alloc (.loop (rec .ready none))).heap[w.heap.size + 1]? = some (.loop (rec .ready none)):=by
  have:=World.alloc_heap_new (w.alloc (.deferred (some []))) (.loop (rec .ready none));rwa [World.size_alloc] at this
 have hD0 : ((w.alloc (.deferred (some []))).alloc (.loop (rec .ready none))).heap[w.heap.size]? = some (.deferred (some [])):=(Below.heap_alloc _ _ _ (by simp)).trans (World.alloc_heap_new w _)
 have hI0 : I [] ((w.alloc (.deferred (some []))).alloc (.loop (rec .ready none))):=hI.alloc _ (hI.alloc _ h0)
 have hB0 : Below w0.heap.size w0 ((w.alloc (.deferred (some []))).alloc (.loop (rec .ready none))):=hb0.trans ((((Below.refl _ w).alloc (Nat.le_refl _) _).alloc (by simp) _).mono hb0.size)
 have hZ0 : ((w.alloc (.deferred (some []))).alloc (.loop (rec .ready none))).heap.size = w.heap.size + 2:=by simp
 have hent:=run_enterLoop_outer (P:=P) (w:=w) fn a.tmps ps assign body
 rw [show (Loop.mk .ready none fn a.tmps ps assign body w.heap.size) = rec .ready none by rw [hrec]] at hent
 generalize (w.alloc (.deferred (some []))).alloc (.loop (rec .ready none)) = W1 at *
 refine ⟨w.heap.size + 1,[{ target:=.collected w.heap.size,args:=#[] }],W1, { target:=.fn (.func gf) lb,args:=#[.func (.yield (w.heap.size + 1)) #[] #[]] }, W1,gf,#[.func (.yield (w.heap.size + 1)) #[] #[]] ++ lb,W1,hent,?_,?_,?_,fun _ => h1,?_⟩
 ·simp only [resolve,hg];simp [go_sem]
 ·intro f' hf';simp [Target.leads] at hf';subst hf';exact hFg
 ·simp [invoke,go_sem,eg]
 refine (hseq (w.heap.size + 1) (fun pre W => I pre W ∧ W.heap[w.heap.size + 1]? = some (.loop (rec .ready none)) ∧ W.heap[w.heap.size]? = some (.deferred (some []))) W1 hB0 ?_ ?_ ⟨hI0,hL0,hD0⟩).mono ?_
 ·intro s A B row hs hg' hr
  have hr' : ∀ r,row = some r → ∃ o : Obj,A.heap[r]? = some o ∧ o.isWalk = true:=fun r e => (hr r e).2
  exact ⟨hI s A B row hs.1 hg' (fun r e => by obtain ⟨hB,o,ho,hw⟩:=hr r e;exact ⟨by omega,o,ho,Obj.not_cells_of_walk hw⟩),(grownBy_keeps hg' hr' hs.2.1 rfl).trans hs.2.1,(grownBy_keeps hg' hr' hs.2.2 rfl).trans hs.2.2⟩
 ·rintro pre x W ⟨hi,hl,hk⟩ hlen
  have hlt : w.heap.size + 1 < W.heap.size:=(Array.getElem?_eq_some_iff.1 hl).1
  have hy:=run_yield (P:=P) (args:=encs x) hl (by rw [hrec];exact hps x)
  rw [hrec] at hy
  refine ⟨fn,_,assign,body,hy,roundIn_of_wpIn hfn (hassign _ x W _ ⟨_,run_beginRound hl (by rw [hrec]),?_⟩)⟩
  have hl2 : (W.putObj (w.heap.size + 1) (.loop { rec .ready none with state:=.busy })).heap[w.heap.size + 1]? = some (.loop { rec .ready none with state:=.busy }):=World.putObj_heap_same hlt
  have hk2 : (W.putObj (w.heap.size + 1) (.loop { rec .ready none with state:=.busy })).heap[w.heap.size]? = some (.deferred (some [])):=(World.putObj_heap_other (by omega)).trans hk
  refine wpIn_mono (hbody _ pre x _ (hI.putObj _ hi (by omega) hl rfl) hlen) ?_
  intro e a3 W3 hp
  cases e with
  | normal =>
   obtain ⟨hk3,hkp3,hi3⟩:=hp
   have hl3:=hk3.same _ _ (by omega) hl2 rfl
   have hend:=run_endRound (P:=P) none hl3
   rw [hrec] at hend
   rw [hrec] at hl3
   exact ⟨_,_,hend,rfl,⟨hI.putObj _ hi3 (by omega) hl3 rfl,by rw [hrec];exact World.putObj_heap_same (Array.getElem?_eq_some_iff.1 hl3).1,(World.putObj_heap_other (by omega)).trans (hk3.same _ _ (Nat.le_refl _) hk2 rfl)⟩,hKt (hKt (hKb _ _ _ _ (by omega) hl rfl rfl) hkp3) (hKb _ _ _ _ (by omega) hl3 rfl rfl)⟩
  | ret => exact hp.elim
  | exit id => exact hp.elim
  | goto t => exact hp.elim
  | panic ch => exact hp.elim
  | outgrown => exact hp.elim
 rintro e W2 ⟨⟨v,rfl⟩,xs,hS,hi,hl,hk⟩
 exact ⟨none,_,by have:=run_endLoop (P:=P) hl (by rw [hrec];simp);rw [hrec] at this;exact this,hdone _ xs _ (Nat.le_refl _) hS (hI.putObj _ hi (by omega) hl rfl) ((World.putObj_heap_other (by omega)).trans hk)⟩
theorem e_u {β : Type} {B : Nat} {J : β → World → Prop} (h : AbidesFrom B J) {s : β} {A C : World} (hs : J s A) (hb : Below A.heap.size A C) : J s C :=
 h s A C none hs ⟨hb.os,hb.tape,hb.output,hb.size,fun k hk _ => hb.block k hk⟩ (fun r e => by cases e)
def d_t (p : S56 → Bool) (xs : List S56) (k : Nat) : List Nat:=(List.range k).filter fun i => p (a_x xs (i : Int))
theorem e_t (p : S56 → Bool) (xs : List S56) (k : Nat) : (d_t p xs k).length ≤ k:=by unfold d_t;exact Nat.le_trans (List.length_filter_le _ _) (by simp)
theorem h_g (p : S56 → Bool) (xs : List S56) (k : Nat) : d_t p xs (k + 1) = d_t p xs k ++ (if p (a_x xs (k : Int)) = true then [k] else []):=by
 unfold d_t
 rw [List.range_succ,List.filter_append]
 cases h : p (a_x xs (k : Int)) <;> simp [h]
theorem i_q.calls (g : Nat) (lb : Array Value) (A : Option Addr) (n c : Nat) (w : World) :
 Calls Tryd.prog 60 #[.agg #[.slice A n c],.func (.func g) #[] lb] w fun e w' => e = .returned (.func (.func 66) #[] #[.pointer (some ⟨w.heap.size,0,none⟩),.pointer (some ⟨w.heap.size + 1,0,none⟩)]) ∧ w' = (w.alloc (.cells #[.slice A n c] 24)).alloc (.cells #[.func (.func g) #[] lb] 81):=by
 go_enter Tryd.func60,Tryd.ntmps60
 go_wp2
 go_ret
 exact ⟨by simp,rfl⟩
set_option maxRecDepth 100000 in
set_option maxHeartbeats 4000000 in
theorem f_i (n : Nat) (hn : 2 ≤ n) (g : Nat) (lb : Array Value) (eg : ∀ args w,(callFunc g args).run Tryd.prog w = .ok (.enter g args) w) (p : S56 → Bool) (A : Option Addr) (c : Nat) (xs : List S56) (hl : xs.length ≤ 1000000) (wb w0 : World) (gt gi : Nat)
 (hgt : wb.heap[gt]? = some (.cells #[.slice A xs.length c] 24 (0,0))) (hgi : wb.heap[gi]? = some (.cells #[.func (.func g) #[] lb] 81 (0,0))) (hr : Kd.C k56 wb A xs.length xs)
 (hp : ∀ W,Below wb.heap.size wb W → ∀ x ∈ xs,Calls Tryd.prog g (#[.agg #[.int .i64 x.f0,.int .i64 x.f1]] ++ lb) W fun e W' => e = .returned (.bool (p x)) ∧ Below W.heap.size W W') (hb0 : Below wb.heap.size wb w0) :
 g_K Fence.wide n Tryd.prog 66 #[.pointer (some ⟨gt,0,none⟩),.pointer (some ⟨gi,0,none⟩)] (fun x : Nat => #[.int .i64 (x : Int)]) (Below wb.heap.size) (fun ys => ys = d_t p xs xs.length) xs.length w0:=by
 intro l J W hW hJ hY h0
 refine callsIn_of_wp Tryd.func66 rfl trivial ?_ rfl
 simp only [Tryd.ntmps66,List.size_toArray,List.length_cons,List.length_nil,Nat.reduceAdd,Nat.reduceSub,Array.replicate_succ,Array.replicate_zero,List.push_toArray,List.append_toArray,List.nil_append,List.cons_append]
 have hWb:=hb0.trans (hW.mono hb0.size)
 have hc0 : W.cell? ⟨gt,0,none⟩ = some (.slice A xs.length c):=(a_k ((hWb.block gt (a_M hgt)).trans hgt) 0).trans rfl
 have HY:=a_b.mk hY
 have HJ:=a_b.mk hJ
 have H0:=a_b.mk h0
 have HP:=a_b.mk hp
 have HR:=a_b.mk hr
 have HGI:=a_b.mk hgi
 have HWB:=a_b.mk hWb
 clear hY hJ h0 hp hr hgt hgi hb0 hW hWb
 gi_wp2
 gi_loopw [9] (fun i wr => ∃ k : Nat,k ≤ xs.length ∧ i = .int .i64 k ∧ a_b (J (d_t p xs k) wr) ∧ a_b (Below wb.heap.size wb wr) ∧ a_b (W.heap.size ≤ wr.heap.size))
  (fun i _ => xs.length - (intOf i).toNat)
 case atStart => exact ⟨0,Nat.zero_le _,rfl,⟨H0.out⟩,⟨HWB.out⟩,⟨Nat.le_refl _⟩⟩
 case round =>
  obtain ⟨k,hk,rfl,HJs,HB,HS⟩:=hrel
  by_cases hlt : k < xs.length
  rotate_left
  ·obtain rfl : k = xs.length:=by omega
   gi_wp2
   go_end0
   exact ⟨⟨_,rfl⟩,_,rfl,HJs.out⟩
  have hltz : (k : Int) < (xs.length : Int):=by omega
  obtain ⟨ad,rfl,e0,e1⟩:=b_r (Kd.b_d HR.out HB.out) (k : Int) (by omega) (by omega)
  simp only [Int.toNat_natCast] at e0 e1
  have hx:=List.getElem_mem hlt
  have hrd : a_x xs (k : Int) = xs[k]:=by unfold a_x;simp [hlt]
  have hst:=h_g p xs k
  have hln:=e_t p xs k
  rw [← hrd] at hx
  have HX:=a_b.mk hx
  have HST:=a_b.mk hst
  have HLN:=a_b.mk hln
  clear hrd hx hst hln
  have hi0 : wr.cell? ⟨gi,0,none⟩ = some (.func (.func g) #[] lb):=(a_k ((HB.out.block gi (a_M HGI.out)).trans HGI.out) 0).trans rfl
  have hgl : gi < wr.heap.size:=Nat.lt_of_lt_of_le (a_M HGI.out) HB.out.size
  have hB1:=a_d (Below.refl wr.heap.size wr) (.cells #[.int .i64 (a_x xs (k : Int)).f0,.int .i64 (a_x xs (k : Int)).f1] 56)
  have hcall:=HP.out _ (HB.out.trans (hB1.mono HB.out.size)) _ HX.out
  have HB1:=a_b.mk hB1
  have hfg : Fence.wide.fn g:=trivial
  have hn1 : 1 ≤ n:=by omega
  clear hB1
  cases hq : p (a_x xs (k : Int)) with
  | false =>
   rw [hq] at hcall
   have HC:=a_b.mk hcall
   have HQ:=a_b.mk hq
   clear hq hcall
   gi_wp2_with (gi_at_fn g;refine (callsIn_wide.2 HC.out).mono ?_;rintro e w' ⟨rfl,hb'⟩;have HB2:=a_b.mk (HB1.out.trans (hb'.mono HB1.out.size));clear hb')
   refine ⟨fun _ h => (by cases h),?_⟩
   gi_wp2
   (try go_bits)
   go_roundw
   case rel => exact ⟨k + 1,by omega,by go_num,⟨by rw [HST.out,HQ.out];simpa using e_u HJ.out HJs.out HB2.out⟩,⟨HB.out.trans (HB2.out.mono HB.out.size)⟩,⟨Nat.le_trans HS.out HB2.out.size⟩⟩
   case measure => simp [intOf];omega
  | true =>
   rw [hq] at hcall
   have HC:=a_b.mk hcall
   have HQ:=a_b.mk hq
   clear hq hcall
   gi_wp2_with (gi_at_fn g;refine (callsIn_wide.2 HC.out).mono ?_;rintro e w' ⟨rfl,hb'⟩;have HB2:=a_b.mk (HB1.out.trans (hb'.mono HB1.out.size));clear hb';obtain ⟨fn,tmps,assign,body,hy,hR⟩:=HY.out (d_t p xs k) k w' (e_u HJ.out HJs.out HB2.out) (Nat.lt_of_le_of_lt HLN.out hlt);have HR2:=a_b.mk hR;clear hR)
   refine HR2.out.mono ?_
   rintro e W3 ⟨rfl,hJ3,hk3⟩
   have HJ3:=a_b.mk hJ3
   have HK3:=a_b.mk hk3
   clear hJ3 hk3
   gi_wp2
   (try go_bits)
   go_roundw
   case rel => exact ⟨k + 1,by omega,by go_num,⟨by rw [HST.out,HQ.out];exact HJ3.out⟩,⟨(HB.out.trans (HB2.out.mono HB.out.size)).trans HK3.out⟩,⟨Nat.le_trans HS.out (Nat.le_trans HB2.out.size HK3.out.size)⟩⟩
   case measure => simp [intOf];omega
set_option maxRecDepth 100000 in
set_option maxHeartbeats 4000000 in
theorem e_z (n : Nat) (hn : 4 ≤ n) (g : Nat) (lb : Array Value) (eg : ∀ args w,(callFunc g args).run Tryd.prog w = .ok (.enter g args) w) (p : S56 → Bool) (A : Option Addr) (c : Nat) (xs : List S56) (hl : xs.length ≤ 1000000) (w : World) (gt gi : Nat)
 (hgt : w.heap[gt]? = some (.cells #[.slice A xs.length c] 24 (0,0))) (hgi : w.heap[gi]? = some (.cells #[.func (.func g) #[] lb] 81 (0,0))) (hr : Kd.C k56 w A xs.length xs)
 (hp : ∀ W,Below w.heap.size w W → ∀ x ∈ xs,Calls Tryd.prog g (#[.agg #[.int .i64 x.f0,.int .i64 x.f1]] ++ lb) W fun e W' => e = .returned (.bool (p x)) ∧ Below W.heap.size W W') :
 CallsIn Fence.wide n Tryd.prog 59 #[.func (.func 66) #[] #[.pointer (some ⟨gt,0,none⟩),.pointer (some ⟨gi,0,none⟩)]] w fun e W' => ∃ v,e = .returned v ∧ W'.ownsRow w.heap.size 3 1 v (d_t p xs xs.length).length ((d_t p xs xs.length).map fun x : Nat => Value.int .i64 (x : Int)) ∧ Below w.heap.size w W':=by
 have h1 : 1 ≤ n:=by omega
 obtain ⟨i0,hi,hz0,hz1,hz2⟩:=info_parts info3
 refine callsIn_of_wp_marks Tryd.func59 rfl trivial ?_ rfl
 simp only [Tryd.ntmps59,List.size_toArray,List.length_cons,List.length_nil,Nat.reduceAdd,Nat.reduceSub,Array.replicate_succ,Array.replicate_zero,List.push_toArray,List.append_toArray,List.nil_append,List.cons_append]
 have hBw : Below w.heap.size w (w.alloc (.cells #[.slice none 0 0] 46)):=(Below.refl _ w).alloc (Nat.le_refl _) _
 have HS:=a_b.mk (f_i (n - 1) (by omega) g lb eg p A c xs hl w _ gt gi hgt hgi hr hp hBw)
 have HL:=a_b.mk (e_t p xs xs.length)
 clear hgt hgi hr hp
 gi_wp2
 have bO:=Boxed.new w 46 (.slice none 0 0)
 refine e_a (w0:=w.alloc (.cells #[.slice none 0 0] 46)) rfl h1 (gf:=66) (lb:=#[.pointer (some ⟨gt,0,none⟩),.pointer (some ⟨gi,0,none⟩)]) rfl trivial (enters_of Tryd.func66 (by kernel_rfl) rfl)
  HS.out (fun h k => h.trans k) (fun W l o o' hl ho hc hw => belowK_b (w:=w.alloc (.cells #[.slice none 0 0] 46)) (by simp) W l o o' hl ho hc hw) (Below.refl _ _) (fun _ => rfl)
  (fun pre W => (∃ v,Boxed W w.heap.size 46 v ∧ W.ownsRow w.heap.size 3 1 v pre.length (pre.map fun x : Nat => Value.int .i64 (x : Int)) ∧ True) ∧ Below w.heap.size w W)
  (OwnFrom.and (Own.from (holdsRow_own w.heap.size w.heap.size 46 3 1 (fun pre : List Nat => pre.length) (fun pre => pre.map fun x : Nat => Value.int .i64 (x : Int)) (fun _ _ => True)) _) (ownFrom_below (by omega) (by simp)))
  ⟨⟨_,bO,World.ownsRow_nil _ _ _ _,trivial⟩,hBw⟩
  (fun x => { tmps:=#[.func (.func 66) #[] #[.pointer (some ⟨gt,0,none⟩),.pointer (some ⟨gi,0,none⟩)],undef,.slice none 0 0,.pointer (some ⟨w.heap.size,0,none⟩),.int .i64 (x : Int),.func (.func 66) #[] #[.pointer (some ⟨gt,0,none⟩),.pointer (some ⟨gi,0,none⟩)],.int .i64 (x : Int),undef,undef,undef,undef,undef],defers:=[] }) ?assign ?body ?done
 case assign =>
  intro l x W K hK
  gi_wp2
  exact hK
 case body =>
  rintro l pre x W ⟨⟨v,hv,hrow,_⟩,hB⟩ hlt
  have hc:=hv.cell
  have hmx : 1000000 ≤ maxLen:=by decide
  gi_wp2_with (gi_at_builtin;refine wpListIn_append_own _ rfl _ _ 46 rfl w.heap.size 3 i0 (.int .i64 0) 1 8 Tryd.underlying46 hi hz0 hz1 hz2 rfl (by decide) _ _ _ rfl (hrow.alloc _) ⟨W.heap.size,0,none⟩ 1 1 [.int .i64 (x : Int)] rfl rfl (cell_one_new _ _ _) (by simp [Value.oneCell']) (by omega) (by omega) (by have:=hv.lt;simp;omega) ?_;intro v' w1 hown' hgrow _;obtain ⟨g',cap',rfl⟩:=ownsRow_succ hown';obtain ⟨hv1,hv2,hr2,hk2,hb2⟩:=hv.appended (by decide) hrow (Nat.le_of_lt hv.lt) (Nat.le_refl _) hown' hgrow;have hc1:=hv1.cell;have hf1:=hv1.frozen)
  exact ⟨hk2.from _,hb2,⟨_,hv2,by simpa using hr2,trivial⟩,hB.trans hb2⟩
 case done =>
  rintro D ys W hD rfl ⟨⟨v,hv,hrow,_⟩,hB⟩ hK
  have hc:=hv.cell
  gi_wp2
  refine ⟨by simp,.inl ⟨_,_,rfl,run_takeDeferred hK,?_⟩⟩
  exact ⟨_,results_tmp rfl _ _ _,v,rfl,ownsRow_putObj hrow _ hK rfl,hB.trans (belowK_b (w:=w) (by omega) W D _ _ (by simp at hD;omega) hK rfl rfl)⟩
def okT (xs : List S56) : Bool:=decide (1 ≤ xs.length) && decide (xs.length ≤ 8) && !xs.any e_s
def maskN (l : List Nat) : Nat:=l.foldl (fun m i => m ||| 2 ^ i) 0
def setN (p : S56 → Bool) (xs : List S56) : Nat:=if okT xs = true then maskN (d_t p xs xs.length) else 0
theorem d_f (xs : List S56) : b_L.f xs = some (if okT xs = true then 0 else 160):=by
 unfold b_L.f okT
 by_cases h1 : (xs.length : Int) < 1
 ·rw [if_pos h1,decide_eq_false (show ¬ 1 ≤ xs.length by omega)];rfl
 by_cases h8 : (xs.length : Int) > 8
 ·rw [if_neg h1,if_pos h8,decide_eq_false (show ¬ xs.length ≤ 8 by omega),Bool.and_false];rfl
 rw [if_neg h1,if_neg h8,decide_eq_true (show 1 ≤ xs.length by omega),decide_eq_true (show xs.length ≤ 8 by omega)]
 unfold a_2.f
 rw [if_pos (by omega)]
 cases xs.any e_s <;> rfl
theorem m_9 (i : Nat) (h : i < 8) : c_W.f (i : Int) = some ((2 ^ i : Nat) : Int):=by
 have : i = 0 ∨ i = 1 ∨ i = 2 ∨ i = 3 ∨ i = 4 ∨ i = 5 ∨ i = 6 ∨ i = 7:=by omega
 rcases this with rfl|rfl|rfl|rfl|rfl|rfl|rfl|rfl <;> rfl
theorem h_0 {m i : Nat} (hm : m < 256) (hi : i < 8) : m ||| 2 ^ i < 256:=Nat.or_lt_two_pow (n:=8) hm (Nat.pow_lt_pow_right (by decide) hi)
theorem k_r (L : List Int) (hL : L.length ≤ 8) : ∀ (suf : List Nat) (pre : List Int) (m k : Nat),L = pre ++ suf.map (fun x : Nat => (x : Int)) → (∀ x ∈ suf,x < 8) → m < 256 → suf.length < k → b_p.l0 k (m : Int) L (L.length : Int) (pre.length : Int) = some (((suf.foldl (fun m i => m ||| 2 ^ i) m : Nat) : Int),0)
 | [],pre,m,0,h,hs,hm,hk => absurd hk (by simp)
 | [],pre,m,k + 1,h,hs,hm,hk => by
  have hlen : pre.length = L.length:=by rw [h];simp
  rw [b_p.l0,if_neg (by omega)];rfl
 | x :: suf,pre,m,0,h,hs,hm,hk => absurd hk (by simp)
 | x :: suf,pre,m,k + 1,h,hs,hm,hk => by
  have hlen : pre.length < L.length:=by rw [h];simp
  have hx:=hs x (by simp)
  have hrd : rd L (pre.length : Int) = (x : Int):=by rw [h];unfold rd;simp
  have hpow : 0 < 2 ^ x:=Nat.two_pow_pos x
  have hpl : 2 ^ x < 256:=Nat.pow_lt_pow_right (n:=8) (by decide) hx
  have hor : Go.bits .or .u32 (m : Int) ((2 ^ x : Nat) : Int) = ((m ||| 2 ^ x : Nat) : Int):=by
   have h1 : ∀ (a : Fin 256) (b : Fin 8),Go.bits .or .u32 (a.val : Int) ((2 ^ b.val : Nat) : Int) = ((a.val ||| 2 ^ b.val : Nat) : Int):=by decide +kernel
   exact h1 ⟨m,hm⟩ ⟨x,hx⟩
  have hw : wrap64 ((pre.length : Int) + 1) = ((pre ++ [(x : Int)]).length : Int):=by rw [List.length_append];unfold wrap64;simp;omega
  have ih:=k_r L hL suf (pre ++ [(x : Int)]) (m ||| 2 ^ x) k (by rw [h];simp) (fun y hy => hs y (by simp [hy])) (h_0 hm hx) (by simp at hk;omega)
  rw [b_p.l0,if_pos (by omega),if_pos (by omega),if_pos (by omega),hrd,m_9 x hx,Option.bind_some,if_neg (by omega),hor,hw,ih]
  rfl
theorem of_f (l : List Nat) (hl : l.length ≤ 8) (h : ∀ x ∈ l,x < 8) : b_p.f 9 (l.map fun x : Nat => (x : Int)) = some (((maskN l : Nat) : Int),0):=by
 unfold b_p.f
 exact k_r _ (by simpa using hl) l [] 0 9 rfl h (by decide) (by omega)
theorem i_K (l : List Nat) (hl : l.length ≤ 8) (h : ∀ x ∈ l,x < 8) (L : List Int) (hL : L = l.map fun x : Nat => (x : Int)) (A : Option Addr) (c : Nat) (W : World) (h1 : Kd.C (Kd.int .i64) W A L.length L) (h2 : L.length ≤ c) :
 Calls Tryd.prog 32 #[.slice A L.length c] W fun e w' => e = .returned (.tuple #[.int .u32 ((maskN l : Nat) : Int),.int .i64 0]) ∧ b_k W w' :=
 b_p.calls 9 A c L _ _ W h1 h2 (by rw [hL];exact of_f l hl h)
theorem f_G {p : S56 → Bool} {xs : List S56} {k i : Nat} (h : i ∈ d_t p xs k) : i < k:=by unfold d_t at h;simpa using (List.mem_filter.mp h).1
set_option maxRecDepth 100000 in
set_option maxHeartbeats 4000000 in
theorem d_4 (g : Nat) (lb : Array Value) (eg : ∀ args w,(callFunc g args).run Tryd.prog w = .ok (.enter g args) w) (p : S56 → Bool) (A : Option Addr) (c : Nat) (xs : List S56) (hl : xs.length ≤ 1000000) (w : World)
 (hr : Kd.C k56 w A xs.length xs) (hc : xs.length ≤ c)
 (hp : ∀ W,Below w.heap.size w W → ∀ x ∈ xs,Calls Tryd.prog g (#[.agg #[.int .i64 x.f0,.int .i64 x.f1]] ++ lb) W fun e W' => e = .returned (.bool (p x)) ∧ Below W.heap.size W W') :
 Calls Tryd.prog 48 #[.agg #[.slice A xs.length c],.func (.func g) #[] lb] w fun e w' => e = .returned (.int .u32 ((setN p xs : Nat) : Int)) ∧ Below w.heap.size w w':=by
 have hbw:=a_d (Below.refl w.heap.size w) (.cells #[.slice A xs.length c] 24)
 have HK:=a_b.mk (d_f xs)
 have HR:=a_b.mk hr
 have HP:=a_b.mk hp
 have HBW:=a_b.mk hbw
 clear hr hp hbw
 refine (callsIn_wide (n:=8)).1 ?_
 have hf1 : Fence.wide.fn 28:=trivial
 have hf2 : Fence.wide.fn 60:=trivial
 have hf3 : Fence.wide.fn 59:=trivial
 have hf4 : Fence.wide.fn 32:=trivial
 refine callsIn_of_wp Tryd.func48 rfl trivial ?_ rfl
 simp only [Tryd.ntmps48,List.size_toArray,List.length_cons,List.length_nil,Nat.reduceAdd,Nat.reduceSub,Array.replicate_succ,Array.replicate_zero,List.push_toArray,List.append_toArray,List.nil_append,List.cons_append]
 unfold setN
 cases hok : okT xs with
 | false =>
  have HOK:=a_b.mk hok
  clear hok
  gi_wp2_with (gi_at_call 28;refine (callsIn_wide.2 (b_L.calls _ _ xs _ _ (Kd.b_d HR.out HBW.out) hc HK.out)).mono ?_;rintro e w' ⟨rfl,hb⟩;have HB1:=a_b.mk (HBW.out.trans (hb.mono HBW.out.size));clear hb;rw [HOK.out])
  go_ret
  exact ⟨rfl,HB1.out⟩
 | true =>
  have HOK:=a_b.mk hok
  have hl8 : xs.length ≤ 8:=by unfold okT at hok;simp at hok;omega
  obtain ⟨L,hL⟩ : ∃ L : List Int,L = (d_t p xs xs.length).map fun x : Nat => (x : Int):=⟨_,rfl⟩
  have HOF:=a_b.mk (i_K (d_t p xs xs.length) (Nat.le_trans (e_t _ _ _) hl8) (fun x hx => Nat.lt_of_lt_of_le (f_G hx) hl8) L hL)
  have HL:=a_b.mk hL
  clear hL
  have hbx:=d_k w (.cells #[.slice A xs.length c] 24)
  have HBX:=a_b.mk hbx
  clear hok hbx
  gi_wp2_with (first
   | (gi_at_call 28;refine (callsIn_wide.2 (b_L.calls _ _ xs _ _ (Kd.b_d HR.out HBW.out) hc HK.out)).mono ?_;rintro e w1 ⟨rfl,hb⟩;have HB1:=a_b.mk (HBW.out.trans (hb.mono HBW.out.size));have hx0 : w1.cell? ⟨w.heap.size,0,none⟩ = some (.slice A xs.length c):=(a_k (a_h HBX.out hb) 0).trans rfl;clear hb;rw [HOK.out])
   | (gi_at_call 60;refine (callsIn_wide.2 (i_q.calls g lb A xs.length c _)).mono ?_;rintro e w2 ⟨rfl,hw2⟩;have HB2:=a_b.mk (a_d (a_d HB1.out (.cells #[.slice A xs.length c] 24)) (.cells #[.func (.func g) #[] lb] 81));have hgt:=a_n (d_k w1 (.cells #[.slice A xs.length c] 24)) (.cells #[.func (.func g) #[] lb] 81);have hgi:=d_k (w1.alloc (.cells #[.slice A xs.length c] 24)) (.cells #[.func (.func g) #[] lb] 81);rw [World.size_alloc] at hgi;rw [← hw2] at hgt hgi HB2;have HGT:=a_b.mk hgt;have HGI:=a_b.mk hgi;clear hgt hgi hw2)
   | (gi_at_call 59;refine (e_z 7 (by omega) g lb eg p A c xs hl _ _ _ HGT.out HGI.out (Kd.b_d HR.out HB2.out) (fun W hW x hx => HP.out W (HB2.out.trans (hW.mono HB2.out.size)) x hx)).mono ?_;rintro e w3 ⟨v,rfl,hrow,hb⟩;have hR:=Kd.e_0 (xs:=L) (enc:=Value.int .i64) (h1:=fun _ => rfl) (by rw [HL.out];simpa [encs,Function.comp_def] using hrow) (fun _ _ => trivial);obtain ⟨A3,c3,rfl,hc3,hC3⟩:=Kd.e_h hR;have HC3:=a_b.mk hC3;have HB3:=a_b.mk (HB2.out.trans (hb.mono HB2.out.size));clear hrow hb hR hC3)
   | (gi_at_call 32;refine (callsIn_wide.2 (HOF.out _ _ _ HC3.out hc3)).mono ?_;rintro e w4 ⟨rfl,hd⟩;have HB4:=a_b.mk (HB3.out.trans (hd.below.mono HB3.out.size));clear hd))
  go_ret
  exact ⟨rfl,HB4.out⟩
set_option maxHeartbeats 1000000 in
theorem i_p.calls (x : S56) (w : World) :
 Calls Tryd.prog 50 (#[.agg #[.int .i64 x.f0,.int .i64 x.f1]] ++ #[]) w fun e w' => e = .returned (.bool true) ∧ Below w.heap.size w w':=by
 go_enter Tryd.func50,Tryd.ntmps50
 go_wp2
 go_ret
 exact ⟨rfl,(Below.refl _ _).alloc (Nat.le_refl _) _⟩
set_option maxHeartbeats 1000000 in
theorem f_H.calls (g : Nat) (x : S56) (a1 : Int) (w : World) (hb : w.heap[g]? = some (.cells #[.int .i64 a1] 3 (0,0))) :
 Calls Tryd.prog 49 (#[.agg #[.int .i64 x.f0,.int .i64 x.f1]] ++ #[.pointer (some ⟨g,0,none⟩)]) w fun e w' => e = .returned (.bool (x.f0 == a1)) ∧ Below w.heap.size w w':=by
 have hc:=(a_k hb 0).trans rfl
 have hlt:=a_M hb
 clear hb
 go_enter Tryd.func49,Tryd.ntmps49
 go_wp2
 go_ret
 exact ⟨rfl,(Below.refl _ _).alloc (Nat.le_refl _) _⟩
def c_y.f (l0 : List S56) : Option Int:=if l0.length ≤ 1000000 then some ((setN (fun _ => true) l0 : Nat) : Int) else none
theorem c_y.calls (A0 : Option Addr) (c0 : Nat) (l0 : List S56) (r : Int) (w : World) (hr0 : Kd.C k56 w A0 l0.length l0) (hc0 : l0.length ≤ c0) (h : c_y.f l0 = some r) :
 Calls Tryd.prog 48 #[.agg #[.slice A0 l0.length c0],.func (.func 50) #[] #[]] w fun e w' => e = .returned (.int .u32 r) ∧ Below w.heap.size w w':=by
 unfold c_y.f at h
 split at h
 case isFalse => cases h
 case isTrue hl =>
 obtain rfl:=Option.some.inj h
 exact d_4 50 _ (d_S Tryd.func50 (by kernel_rfl) rfl) _ A0 c0 l0 hl w hr0 hc0 (fun W hW x _ => i_p.calls x W)
def c_d.f (l0 : List S56) (a : Int) : Option Int:=if l0.length ≤ 1000000 then some ((setN (fun s => s.f0 == a) l0 : Nat) : Int) else none
theorem c_d.calls (A0 : Option Addr) (c0 : Nat) (l0 : List S56) (g : Nat) (a : Int) (r : Int) (w : World) (hr0 : Kd.C k56 w A0 l0.length l0) (hc0 : l0.length ≤ c0) (hb : w.heap[g]? = some (.cells #[.int .i64 a] 3 (0,0))) (h : c_d.f l0 a = some r) :
 Calls Tryd.prog 48 #[.agg #[.slice A0 l0.length c0],.func (.func 49) #[] #[.pointer (some ⟨g,0,none⟩)]] w fun e w' => e = .returned (.int .u32 r) ∧ Below w.heap.size w w':=by
 unfold c_d.f at h
 split at h
 case isFalse => cases h
 case isTrue hl =>
 obtain rfl:=Option.some.inj h
 exact d_4 49 _ (d_S Tryd.func49 (by kernel_rfl) rfl) _ A0 c0 l0 hl w hr0 hc0 (fun W hW x _ => f_H.calls g x a W ((hW.block _ (a_M hb)).trans hb))
end
end Go.Proofs.YtcpfcehfgenljaaDoor.Q
end
section
namespace Go.Proofs.YtcpfcehfgenljaaDoor.Q
open Go.RowKit Go.Proofs.YtcpfcehfgenljaaDoorW.PrintWords Go.Proofs.YtcpfcehfgenljaaDoorW.PrintLast Go.Proofs.YtcpfcehfgenljaaDoorW.PrintMore
set_option linter.unusedVariables false
set_option linter.unusedSimpArgs false
def d_M.f (l0_0 : List (S56)) : Option (Int):=(c_y.f l0_0).bind fun t118 => (some t118)
set_option maxHeartbeats 8000000 in
set_option maxRecDepth 100000 in
theorem d_M.calls (A0_0 : Option Addr) (c0_0 : Nat) (l0_0 : List (S56)) (r : Int) (w : World) (hr0_0 : Kd.C k56 w A0_0 l0_0.length l0_0) (hc0_0 : l0_0.length ≤ c0_0) (h : d_M.f l0_0 = some r) :
 Calls Tryd.prog 30 #[.agg #[.slice A0_0 l0_0.length c0_0]] w fun e w' => e = .returned (.int .u32 r) ∧ Below w.heap.size w w':=by
 have hu24:=Tryd.underlying24
 have b_l:=a_b.mk hr0_0
 have c_h:=a_b.mk hc0_0
 clear hr0_0 hc0_0
 have HB:=a_b.mk (Below.refl w.heap.size w)
 have H : ((c_y.f l0_0).bind fun t118 => (some t118)) = some r:=h
 clear h
 replace H:=Option.bind_eq_some_iff.mp H
 obtain ⟨t118,A20,H⟩:=H
 replace H : (some t118) = some r:=H
 have A2:=a_b.mk A20
 clear A20
 obtain rfl:=Option.some.inj H
 go_enter Tryd.func30,Tryd.ntmps30
 go_wp2_with (first|((with_reducible refine a_J (N:=1) rfl ?_);refine a_F ?hg (N:=1) ?hd (cs:=#[.slice A0_0 l0_0.length c0_0]) (t:=24) ?hr ?_;(case hd => rfl);(case hg => rfl);(case hr => first|(go_simp;done)|(go_simp;rfl));intro j_k hg w3 hbox hb;have i_t:=a_b.mk (hbox);have q_W:=a_b.mk ((by rw [hg];exact (a_i (lup_ HB.out)) : w.heap.size ≤ j_k));have j_Z:=a_b.mk ((by rw [hg];exact (a_i (lup_ HB.out)) : w.heap.size ≤ j_k));replace HB:=a_b.mk (a_l (lup_ HB.out) hb);clear hb hbox hg;have i_U : w3.cell? ⟨j_k,0,none⟩ = some (.slice A0_0 l0_0.length c0_0):=(a_k i_t.out 0).trans rfl;have i_V:=a_g i_t.out 0)|((with_reducible refine a_y (f:=48) rfl ?_);refine a_5 (some 4) rfl rfl Tryd.func48 (by kernel_rfl) rfl #[.agg #[.slice A0_0 l0_0.length c0_0],.func (.func 50) #[] #[]] rfl (by (try simp only [List.map_toArray,List.map_cons,List.map_nil]);first|done|rfl|(simp only [List.length_drop,List.length_take];rfl)) ?_;(with_reducible refine (c_y.calls _ _ l0_0  t118 _ ?side1 ?side2 A2.out).mono ?_);(case side1 => repeat (first|exact (Kd.b_d b_l.out HB.out)|(with_reducible refine Kd.a_N ?_ _)|(with_reducible refine Kd.a_O ?_ _)|(with_reducible refine Kd.a_8 ?_)));(case side2 => exact c_h.out);rintro e w5 ⟨rfl,hb⟩;refine ⟨_,rfl,?_⟩;replace i_t:=a_b.mk (a_h (bup_ i_t.out) hb);replace HB:=a_b.mk (a_l (by repeat (first|(with_reducible first|exact HB.out|apply a_d|apply a_c|apply a_e|refine a_a ?_ j_Z.out)|exact HB.out)) hb);(try clear hb);(try clear hb2);(try clear hk);(try clear hi)))
 go_ret
 exact ⟨by first|rfl|(simp [a_t,a_u] <;> rfl)|(simp [*, a_t,a_u] <;> rfl),by repeat (first|(with_reducible first|exact HB.out|apply a_d|apply a_c|apply a_e|refine a_a ?_ j_Z.out)|exact HB.out)⟩
end Go.Proofs.YtcpfcehfgenljaaDoor.Q
end
section
namespace Go.Proofs.YtcpfcehfgenljaaDoor.Q
open Go.RowKit Go.Proofs.YtcpfcehfgenljaaDoorW.PrintWords Go.Proofs.YtcpfcehfgenljaaDoorW.PrintLast Go.Proofs.YtcpfcehfgenljaaDoorW.PrintMore
set_option linter.unusedVariables false
set_option linter.unusedSimpArgs false
def c_e.f (a0 : Int) : Option (Int):=if (Go.bits .andNot .u32 a0 255) = 0 then (some 0) else (some 140)
set_option maxHeartbeats 8000000 in
set_option maxRecDepth 100000 in
theorem c_e.calls (a0 : Int) (r : Int) (w : World) (h : c_e.f a0 = some r) :
 Calls Tryd.prog 41 #[.int .u32 a0] w fun e w' => e = .returned (.int .i64 r) ∧ b_k w w':=by
 have H : (if (Go.bits .andNot .u32 a0 255) = 0 then (some 0) else (some 140)) = some r:=h
 clear h
 by_cases c2 : (Go.bits .andNot .u32 a0 255) = 0
 ·rw [if_pos c2] at H
  have c2b0 : ((Go.bits .andNot .u32 a0 255) == 0) = true:=beq_iff_eq.mpr c2
  have c2b1 : ((Go.bits .andNot .u32 a0 255) != 0) = false:=bne_eq_false_iff_eq.mpr c2
  clear c2
  obtain rfl:=Option.some.inj H
  go_enter Tryd.func41,Tryd.ntmps41
  go_wp2
  go_ret
  exact ⟨by first|rfl|(simp;done)|(simp [*];done),by repeat (first|exact b_k.refl _|apply b_k.step)⟩
 rw [if_neg c2] at H
 have c2b0 : ((Go.bits .andNot .u32 a0 255) == 0) = false:=beq_eq_false_iff_ne.mpr c2
 have c2b1 : ((Go.bits .andNot .u32 a0 255) != 0) = true:=bne_iff_ne.mpr c2
 obtain rfl:=Option.some.inj H
 go_enter Tryd.func41,Tryd.ntmps41
 go_wp2
 go_ret
 exact ⟨by first|rfl|(simp;done)|(simp [*];done),by repeat (first|exact b_k.refl _|apply b_k.step)⟩
end Go.Proofs.YtcpfcehfgenljaaDoor.Q
end
section
namespace Go.Proofs.YtcpfcehfgenljaaDoor.Q
open Go.RowKit Go.Proofs.YtcpfcehfgenljaaDoorW.PrintWords Go.Proofs.YtcpfcehfgenljaaDoorW.PrintLast Go.Proofs.YtcpfcehfgenljaaDoorW.PrintMore
set_option linter.unusedVariables false
set_option linter.unusedSimpArgs false
set_option maxHeartbeats 1000000 in
theorem i_r (x k idx : Nat) (w : World) (hx0 : ((x : Int) == 0) = false)
 (key : bits BinOp.and IntKind.u32 (x : Int) (-(x : Int) % 4294967296) * 125613361 % 4294967296 / 134217728 = (idx : Int))
 (hi : idx < 32) (hk : k < 32) (hcell : w.cell? ⟨0,idx,none⟩ = some (.int .u8 k)) :
 Calls Tryd.prog 63 #[.int .u32 x] w fun e w' => e = .returned (.int .i64 k) ∧ w' = w:=by
 go_enter Tryd.func63,Tryd.ntmps63
 go_wp2_with (simp only [key])
 go_ret
 exact ⟨rfl,rfl⟩
theorem h_h (x : Nat) (hx0 : x ≠ 0) (hx : x < 4294967296) (w : World) (ht : b_W w) :
 Calls Tryd.prog 63 #[.int .u32 x] w fun e w' => e = .returned (.int .i64 ((Lib.ctz 32 x : Nat) : Int)) ∧ w' = w:=by
 obtain ⟨hlow,hk⟩:=Lib.lowest_bit 32 x hx0 hx
 obtain ⟨hi,htab⟩:=Lib.deBruijn32_at _ hk
 have hcell:=ht _ hi
 rw [htab] at hcell
 exact i_r x _ _ w (by simp;omega) (tz32_key x _ hx hx0 hlow) hi hk hcell
end Go.Proofs.YtcpfcehfgenljaaDoor.Q
end
