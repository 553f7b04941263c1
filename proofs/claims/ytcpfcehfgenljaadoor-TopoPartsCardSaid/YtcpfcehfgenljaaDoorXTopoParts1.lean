/- Part 2 of 4 of what the row of TopoParts stands on: contracts over the given program's functions, the plain law, the row; no condition beyond those that each theorem states. -/
import Derived.Test.YtcpfcehfgenljaaDoorXTopoParts0
import Derived.Test.YtcpfcehfgenljaaDoorProg
import Derived.Shelf.Abstract
import Derived.Laws.EntriesVeiled
import Derived.WalkSpells
import Derived.Shelf.Spec.TrailingZeros
import Derived.Test.YtcpfcehfgenljaaDoorRows
import Derived.Deep.Slices
import Derived.ChangeArms
import Derived.DataReads
import Derived.ProofKit
import Derived.OpenShut
import Derived.ChangeOld
import Derived.SizedLaws
import Derived.Shelf.AbstractIn
import Derived.RangeFuncNested
import Derived.RangeFuncBound
import Derived.RangeFuncBox
import Derived.RangeFuncCalls
import Derived.RangeFuncLeaves
import Derived.Shelf.RegionOpen
import Derived.OwnWalkIn
import Derived.TacticsInMore
import Derived.LoopNIn
import Derived.LoopIn
section
namespace Go.Proofs.YtcpfcehfgenljaaDoor
open Go.RowKit Go.Proofs.YtcpfcehfgenljaaDoorW.PrintWords Go.Proofs.YtcpfcehfgenljaaDoorW.PrintLast Go.Proofs.YtcpfcehfgenljaaDoorW.PrintMore
def Up_ (w W : World) : Prop:=Below w.heap.size w W
instance (priority:=low) up0_ (w : World) : Nonempty (Up_ w w):=⟨Below.refl _ _⟩
instance upA_ (w W : World) (o : Obj) [h : Nonempty (Up_ w W)] : Nonempty (Up_ w (W.alloc o)):=h.elim fun h => ⟨a_e h o⟩
instance upN_ (w W : World) (n : Nat) [h : Nonempty (Up_ w W)] : Nonempty (Up_ w (W.drewN n)):=h.elim fun h => ⟨a_c h n⟩
instance upD_ (w W : World) [h : Nonempty (Up_ w W)] : Nonempty (Up_ w W.drew):=h.elim fun h => ⟨b_X h⟩
theorem bup_ {w W : World} {g : Nat} {o : Obj} (h : w.heap[g]? = some o) [u : Nonempty (Up_ w W)] : W.heap[g]? = some o:=u.elim fun b => a_k h b
theorem rup_ {α : Type} {d : Kd α} {e : Nat} {w W : World} {base : Nat} {ok : Nat → Prop} {v : Value} {xs : List α} (h : d.R e w base ok v xs) [u : Nonempty (Up_ w W)] : d.R e W base ok v xs:=u.elim fun b => Kd.a_B h b
theorem lup_ {w0 w W : World} (h : Below w0.heap.size w0 w) [u : Nonempty (Up_ w W)] : Below w0.heap.size w0 W:=u.elim fun b => a_h h b
abbrev T_ : Bool:=true
abbrev F_ : Bool:=false
theorem sa_ {α : Type} (l : List α) (i : Nat) (a : α) : l.toArray.setIfInBounds i a = (l.set i a).toArray:=List.setIfInBounds_toArray l i a
theorem sb_ {α : Type} (x : α) (l : List α) (a : α) : (x :: l).set 0 a = a :: l:=rfl
theorem sc_ {α : Type} (x : α) (l : List α) (i : Nat) (a : α) : (x :: l).set (i + 1) a = x :: l.set i a:=rfl
section
variable {P : Program} {ops : Array Oper} {Q : Exit → Act → World → Prop} {md : Region.Mode} {S : World → Prop} {ds : List Nat} {T : Bool × List (List Nat × List Nat)}
theorem pk_ {oi : Oper} {fuel : Nat} {l : Array Bool} {a a' : Act} {w : World} (i : Nat) (N : Option Tmp) (l' : Array Bool) (HT : a_b (rtab md ops = T)) (h : a_z P md ops Q S ds fuel l' a' w) (hi : ops[i]? = some oi:=by rfl) (hN : oi.dst = N:=by rfl) (hc : anyT T l.toList l'.toList i = true:=by kernel_rfl) (hQ : ∀ c a w,Q (.panic c) (a.put oi.dst undef) w → Q (.panic c) a w:=by exact fun _ _ _ h => h) (hg : Region.wanted oi (yielded ops a.tmps) = false:=by rfl) (ha : a.put N undef = a':=by simp only [Act.put,sa_,sb_,sc_,b_Q,b_P];rfl) : a_z P md ops Q S ds (fuel + 1) l a w:=h_G l' hi hN (g_v HT.out hc) hQ (Or.inr ⟨hg,rfl⟩) ha h
theorem pt_ {oi : Oper} {fuel : Nat} {l : Array Bool} {a a' : Act} {w : World} {v : Value} (i : Nat) (N : Option Tmp) (l' : Array Bool) (HT : a_b (rtab md ops = T)) (h : a_z P md ops Q S ds fuel l' a' w) (hi : ops[i]? = some oi:=by rfl) (hN : oi.dst = N:=by rfl) (hc : anyT T l.toList l'.toList i = true:=by kernel_rfl) (hQ : ∀ c a w,Q (.panic c) (a.put oi.dst v) w → Q (.panic c) a w:=by exact fun _ _ _ h => h) (hg : Region.wanted oi (yielded ops a.tmps) = true:=by rfl) (hv : ∀ w',(execOp a.eval oi).run P w' = .ok (.value v) w':=by intro w';go_simp;with_reducible rfl) (ha : a.put N v = a':=by simp only [Act.put,sa_,sb_,sc_,b_Q,b_P];rfl) : a_z P md ops Q S ds (fuel + 1) l a w:=h_G l' hi hN (g_v HT.out hc) hQ (Or.inl ⟨hg,hv⟩) ha h
end
abbrev Z0_ : Array Bool:=#[T_,T_,T_,T_,T_,T_,T_,T_,T_,T_,T_,T_,F_,F_]
end Go.Proofs.YtcpfcehfgenljaaDoor
end
section
namespace Go.Proofs.YtcpfcehfgenljaaDoor.Q
open Go.RowKit Go.Proofs.YtcpfcehfgenljaaDoorW.PrintWords Go.Proofs.YtcpfcehfgenljaaDoorW.PrintLast Go.Proofs.YtcpfcehfgenljaaDoorW.PrintMore
set_option linter.unusedVariables false
set_option linter.unusedSimpArgs false
def errW : Option Int → Value
 | none => .nilIface
 | some c => .iface 0 (.int .i64 c)
theorem a_p : errW none = .nilIface:=rfl
theorem a_q (c : Int) : errW (some c) = .iface 0 (.int .i64 c):=rfl
theorem info3 : (Tryd.prog.info? 3).map (fun i => (i.zero,i.size,i.bytes)) = some (some (.int .i64 0),1,8):=by kernel_rfl
theorem f_M : (Tryd.prog.info? 56).map (fun i => (i.zero,i.size,i.bytes)) = some (some (.agg #[(.int .i64 0),(.int .i64 0)]),2,16):=by kernel_rfl
structure S56 where
 f0 : Int
 f1 : Int
def z56 : S56:=⟨(0 : Int),(0 : Int)⟩
def k56 : Kd S56:=Kd.iso (Kd.pair (Kd.int .i64) (Kd.int .i64)) (fun x : S56 => (x.f0,x.f1))
theorem g_h {w : World} {x : S56} {cs : List Value} (h : k56.K w x cs) : cs = [.int .i64 x.f0,.int .i64 x.f1]:=by
 obtain ⟨_,_,rfl,rfl,rfl⟩:=h
 exact rfl
theorem g_2 (w : World) (base : Nat) (ok : Nat → Prop) (x : S56)  : k56.M w base ok x [.int .i64 x.f0,.int .i64 x.f1]:=⟨[.int .i64 x.f0],[.int .i64 x.f1],rfl,rfl,rfl⟩
def a_u (xs : List S56) (i : Int) : S56:=xs.getD i.toNat z56
theorem e_G {w : World} {A : Option Addr} {n : Nat} {xs : List S56} (h : Kd.C k56 w A n xs) (i : Int) (h0 : 0 ≤ i) (h1 : i < n) : ∃ ad , A = some ad ∧ w.cell? (ad.add (i.toNat * 2)) = some (.int .i64 (a_u xs i).f0) ∧ w.cell? ⟨(ad.add (i.toNat * 2)).block,(ad.add (i.toNat * 2)).off + 1,none⟩ = some (.int .i64 (a_u xs i).f1):=by
 obtain ⟨ad,c,e,_,hK,hc0⟩:=Kd.h_N h z56 i h0 h1
 have hc : ∀ j u,c[j]? = some u → w.cell? (ad.add (i.toNat * 2 + j)) = some u:=hc0
 obtain rfl:=g_h hK
 exact ⟨ad,e,hc 0 _ rfl,by rw [← f_i _ _ 1 (by omega)];exact hc 1 _ rfl⟩
structure S39 where
 f0 : Int
 f1 : Int
def z39 : S39:=⟨(0 : Int),(0 : Int)⟩
structure S57 where
 f0 : Int
 f1 : Int
 f2 : Int
def z57 : S57:=⟨(0 : Int),(0 : Int),(0 : Int)⟩
structure S24 where
 f0 : (List S56)
def z24 : S24:=⟨([] : List S56)⟩
def k24 : Kd S24:=Kd.iso (Kd.slice 56 k56) (fun x : S24 => x.f0)
theorem g_g {w : World} {x : S24} {cs : List Value} (h : k24.K w x cs) : ∃ A0 c0,cs = [.slice A0 x.f0.length c0] ∧ x.f0.length ≤ c0 ∧ k56.C w A0 x.f0.length x.f0:=by
 obtain ⟨A0,c0,rfl,l0,g0⟩:=h
 exact ⟨A0,c0,rfl,l0,g0⟩
def idxOf {α : Type} (p : α → Bool) (xs : List α) : Int:=match xs.findIdx? p with|some i => i|none => -1
theorem idxOf_hit {α : Type} {p : α → Bool} {xs : List α} {k : Nat} (hk : k < xs.length) (h : p xs[k] = true) (hb : ∀ j (hj : j < k),p (xs[j]'(by omega)) = false) : idxOf p xs = k:=by
 unfold idxOf
 have : xs.findIdx? p = some k:=by
  rw [List.findIdx?_eq_some_iff_getElem]
  exact ⟨hk,h,fun j hj => by simp [hb j hj]⟩
 rw [this]
theorem idxOf_miss {α : Type} {p : α → Bool} {xs : List α} (hb : ∀ j (hj : j < xs.length),p xs[j] = false) : idxOf p xs = -1:=by
 unfold idxOf
 have : xs.findIdx? p = none:=by
  rw [List.findIdx?_eq_none_iff]
  intro x hx
  obtain ⟨j,hj,rfl⟩:=List.getElem_of_mem hx
  exact hb j hj
 rw [this]
theorem e_g {α : Type} (p : α → Bool) (xs : List α) : decide (0 ≤ idxOf p xs) = xs.any p:=by
 unfold idxOf
 cases h : xs.findIdx? p with
 | none =>
  rw [List.findIdx?_eq_none_iff] at h
  have : xs.any p = false:=List.any_eq_false.2 fun x hx => by simp [h x hx]
  rw [this];rfl
 | some i =>
  rw [List.findIdx?_eq_some_iff_getElem] at h
  obtain ⟨hi,hp,_⟩:=h
  have : xs.any p = true:=List.any_eq_true.2 ⟨_,List.getElem_mem hi,hp⟩
  rw [this];simp
def b_p (w : World) : Prop:=TabAt 0 Lib.deBruijn32tab w
theorem b_p.below {w W : World} (h : b_p w) (hb : Below w.heap.size w W) : b_p W:=fun j hj => (hb.cell (p:=⟨0,j,none⟩) (World.block_lt_of_cell? w _ (h j hj))).trans (h j hj)
def c_p (m : Nat) : List Nat:=(List.range 8).filter fun i => m.testBit i
theorem e_W : ∀ m,m < 256 → m ≠ 0 → c_p m = Lib.ctz 32 m :: c_p (m &&& (m - 1)):=by decide +kernel
theorem e_c (m : Nat) : (c_p m).length ≤ 8:=by unfold c_p;exact Nat.le_trans (List.length_filter_le _ _) (by simp)
theorem e_X : c_p 0 = []:=by decide
end Go.Proofs.YtcpfcehfgenljaaDoor.Q
end
section
namespace Go.Proofs.YtcpfcehfgenljaaDoor.Q
open Go.RowKit Go.Proofs.YtcpfcehfgenljaaDoorW.PrintWords Go.Proofs.YtcpfcehfgenljaaDoorW.PrintLast Go.Proofs.YtcpfcehfgenljaaDoorW.PrintMore
open Go.ChangeShapes Go.WideShapes Go.ChangeAt
set_option linter.unusedVariables false
set_option linter.unusedSimpArgs false
structure c_J (P : Program) (t : TypeId) {α : Type} (d : Kd α) (wf : α → Prop) : Prop where
 cells : P.cellsOf t = d.sz
 open_ : ∀ {H : Type} {enc : TypeId × Value → H} {w : World} {base : Nat} {spare : Nat → Bool} {held : Bool} {fuel : Nat} {cs : List Value} {x : DataW H × List MemPlace},
  DataW.trod enc P w base spare held fuel t cs = some x → ∃ v,d.K w v cs ∧ wf v
theorem c_J.int {P : Program} {t : TypeId} {k : IntKind} (ht : P.underlying t = some (.int k)) (hc : P.cellsOf t = 1) : c_J P t (Kd.int k) (fun n => (Lit.int k n).wf = true) :=
 ⟨hc,fun {H enc w base spare held fuel cs x} h => by
  cases fuel with
  | zero => simp [DataW.trod] at h
  | succ n =>
   unfold DataW.trod at h
   rw [ht] at h
   split at h <;> simp_all
   exact ⟨_,rfl,h.1.2⟩⟩
theorem c_J.bool {P : Program} {t : TypeId} (ht : P.underlying t = some .bool) (hc : P.cellsOf t = 1) : c_J P t Kd.bool (fun _ => True) :=
 ⟨hc,fun {H enc w base spare held fuel cs x} h => by
  cases fuel with
  | zero => simp [DataW.trod] at h
  | succ n =>
   unfold DataW.trod at h
   rw [ht] at h
   split at h
   all_goals first|exact ⟨_,rfl,trivial⟩|simp_all⟩
theorem e_5 {α : Type} [Inhabited α] (m : Nat) (p : Nat → α → Prop) (h : ∀ i,i < m → ∃ v,p i v) : ∃ f : Nat → α, ∀ i,i < m → p i (f i):=by
 classical
 exact ⟨fun i => if hi : ∃ v,p i v then hi.choose else default,fun i hi => by
  have hx:=h i hi
  simp only [hx,dif_pos]
  exact hx.choose_spec⟩
theorem c_J.slice {P : Program} {t e : TypeId} {α : Type} {d : Kd α} {wf : α → Prop} [Inhabited α] (ht : P.underlying t = some (.slice e)) (hc : P.cellsOf t = 1) (he : c_J P e d wf) :
 c_J P t (Kd.slice e d) (fun l => l.length ≤ maxLen ∧ ∀ x ∈ l,wf x) :=
 ⟨hc,fun {H enc w base spare held fuel cs x} h => by
  rcases Go.Deep.open_slice ht h with ⟨rfl,_⟩ | ⟨a,len,cap,m,n,D,Pl,rfl,hb,hl,hm,hmm,_,hx⟩
  ·exact ⟨[],⟨none,0,rfl,Nat.le_refl _,⟨rfl,by simp,fun h => absurd h (Nat.lt_irrefl 0)⟩⟩,by simp,by simp⟩
  ·have hlm : len ≤ m:=by rw [hmm];split <;> omega
   obtain ⟨f,hf⟩:=e_5 (α:=α) m (fun i v => ∃ cs',w.cells? base (a.add (i * P.cellsOf e)) (P.cellsOf e) = some cs' ∧ d.K w v cs' ∧ wf v) (fun i hi => by
    obtain ⟨cs',h1,h2⟩:=hx i hi
    obtain ⟨v,h3,h4⟩:=he.open_ h2
    exact ⟨v,cs',h1,h3,h4⟩)
   have hml : maxLen = 9223372036854775807:=rfl
   refine ⟨(List.range len).map f,⟨some a,cap,by simp,by simpa using hl,⟨by simp,by simp;omega,fun _ => ⟨a,rfl,fun j p hj => ?_⟩⟩⟩,by simp;omega,fun v hv => ?_⟩
   ·rw [List.getElem?_map] at hj
    obtain ⟨i,hi,rfl⟩:=Option.map_eq_some_iff.1 hj
    have hij : j < len:=by
     rcases Nat.lt_or_ge j len with h|h
     ·exact h
     ·rw [List.getElem?_eq_none (by simpa using h)] at hi;cases hi
    rw [List.getElem?_range hij] at hi
    injection hi with hi
    subst hi
    obtain ⟨cs',h1,h2,h3⟩:=hf j (by omega)
    obtain ⟨_,h4,h5⟩:=World.cells?_some h1
    rw [he.cells] at h4 h5 h1
    refine ⟨cs',h4,h2,fun i u hu => ?_⟩
    have hil : i < d.sz:=by
     rw [← h4]
     exact (List.getElem?_eq_some_iff.1 hu).1
    rw [show j * d.sz + i = j * d.sz + i from rfl, ← add_add,h5 i hil]
    exact hu
   ·obtain ⟨j,hj,rfl⟩:=List.mem_map.1 hv
    obtain ⟨_,_,_,h3⟩:=hf j (by have:=List.mem_range.1 hj;omega)
    exact h3⟩
theorem c_l {P : Program} {H : Type} {enc : TypeId × Value → H} {w : World} {base : Nat} {spare : Nat → Bool} {held : Bool} {fuel : Nat} {t : TypeId} {cs : List Value} {x : DataW H × List MemPlace} {fs : Array Field}
 (ht : P.underlying t = some (.struct fs)) (h : DataW.trod enc P w base spare held fuel t cs = some x) (i : Nat) {f : Field} (hf : fs[i]? = some f) {α : Type} {d : Kd α} {wf : α → Prop} (ho : c_J P f.type d wf) :
 ∃ v,d.K w v ((cs.drop f.offset).take d.sz) ∧ wf v:=by
 obtain ⟨xs,n,_,_,_,hl,hx⟩:=DataW.trod_struct ht h
 have h1:=hx i f hf
 have hi : i < xs.length:=by rw [hl];exact (Array.getElem?_eq_some_iff.1 hf).1
 rw [List.getElem?_eq_getElem hi,ho.cells] at h1
 exact ho.open_ h1
theorem c_Z {P : Program} {H : Type} {enc : TypeId × Value → H} {w : World} {base : Nat} {spare : Nat → Bool} {held : Bool} {fuel : Nat} {t : TypeId} {cs : List Value} {x : DataW H × List MemPlace} {fs : Array Field}
 (ht : P.underlying t = some (.struct fs)) (h : DataW.trod enc P w base spare held fuel t cs = some x) : cs.length = P.cellsOf t:=by
 obtain ⟨xs,n,_,_,hl,_⟩:=DataW.trod_struct ht h
 exact hl
theorem b_U {α : Type} {cs : List α} {n : Nat} (h : cs.length = n + 1) : ∃ a l,cs = a :: l ∧ l.length = n:=by
 cases cs with
 | nil => simp at h
 | cons a l => exact ⟨a,l,rfl,by simpa using h⟩
theorem toList_eq {α : Type} {cs : Array α} {l : List α} (h : cs.toList = l) : cs = l.toArray:=by rw [← h]
theorem own : ownKnob Tryd.prog.godebug = none:=by kernel_rfl
theorem laidOut : laidOutB Tryd.prog = true:=by kernel_rfl
instance : Inhabited S56:=⟨z56⟩
def wf56 (x : S56) : Prop:=(fun n => (Lit.int .i64 n).wf = true) x.f0 ∧ (fun n => (Lit.int .i64 n).wf = true) x.f1
theorem op56 : c_J Tryd.prog 56 k56 wf56 :=
 ⟨by kernel_rfl,fun {H enc w base spare held fuel cs x} h => by
  have hl : cs.length = 2:=(c_Z Tryd.underlying56 h).trans (by kernel_rfl)
  obtain ⟨v0,h0,w0⟩:=c_l Tryd.underlying56 h 0 rfl (c_J.int Tryd.underlying3 (by kernel_rfl))
  obtain ⟨v1,h1,w1⟩:=c_l Tryd.underlying56 h 1 rfl (c_J.int Tryd.underlying3 (by kernel_rfl))
  obtain ⟨c0,l0,rfl,hm0⟩:=b_U hl
  obtain ⟨c1,l1,rfl,hm1⟩:=b_U hm0
  obtain rfl:=List.eq_nil_of_length_eq_zero hm1
  exact ⟨⟨v0,v1⟩,⟨[c0],[c1],rfl,h0,h1⟩,⟨w0,w1⟩⟩⟩
instance : Inhabited S24:=⟨z24⟩
def wf24 (x : S24) : Prop:=(fun l => l.length ≤ maxLen ∧ ∀ x ∈ l,wf56 x) x.f0
theorem op24 : c_J Tryd.prog 24 k24 wf24 :=
 ⟨by kernel_rfl,fun {H enc w base spare held fuel cs x} h => by
  have hl : cs.length = 1:=(c_Z Tryd.underlying24 h).trans (by kernel_rfl)
  obtain ⟨v0,h0,w0⟩:=c_l Tryd.underlying24 h 0 rfl (c_J.slice Tryd.underlying22 (by kernel_rfl) op56)
  obtain ⟨c0,l0,rfl,hm0⟩:=b_U hl
  obtain rfl:=List.eq_nil_of_length_eq_zero hm0
  exact ⟨⟨v0⟩,h0,w0⟩⟩
instance : Inhabited S39:=⟨z39⟩
instance : Inhabited S57:=⟨z57⟩
end Go.Proofs.YtcpfcehfgenljaaDoor.Q
end
section
namespace Go.Proofs.YtcpfcehfgenljaaDoor.Q
open Go.RowKit Go.Proofs.YtcpfcehfgenljaaDoorW.PrintWords Go.Proofs.YtcpfcehfgenljaaDoorW.PrintLast Go.Proofs.YtcpfcehfgenljaaDoorW.PrintMore
set_option linter.unusedVariables false
set_option linter.unusedSimpArgs false
def b_Z.f (a0_0 : Int) (a0_1 : Int) : Option (Bool):=if a0_0 < 0 then (some true) else (if a0_0 ≥ 4 then (some true) else (if a0_1 < 0 then (some true) else (some (decide (a0_1 ≥ 8)))))
set_option maxHeartbeats 8000000 in
set_option maxRecDepth 100000 in
theorem b_Z.calls (a0_0 : Int) (a0_1 : Int) (r : Bool) (w : World) (h : b_Z.f a0_0 a0_1 = some r) :
 Calls Tryd.prog 47 #[.agg #[.int .i64 a0_0,.int .i64 a0_1]] w fun e w' => e = .returned (.bool r) ∧ Below w.heap.size w w':=by
 have hu56:=Tryd.underlying56
 have HB:=a_b.mk (Below.refl w.heap.size w)
 have H : (if a0_0 < 0 then (some true) else (if a0_0 ≥ 4 then (some true) else (if a0_1 < 0 then (some true) else (some (decide (a0_1 ≥ 8)))))) = some r:=h
 clear h
 by_cases c2 : a0_0 < 0
 ·rw [if_pos c2] at H
  have c2b0 : decide (a0_0 < 0) = true:=decide_eq_true c2
  clear c2
  obtain rfl:=Option.some.inj H
  go_enter Tryd.func47,Tryd.ntmps47
  go_wp2_with (first|((with_reducible refine a_D (N:=1) rfl ?_);refine a_A ?hg (N:=1) ?hd (cs:=#[.int .i64 a0_0,.int .i64 a0_1]) (t:=56) ?hr ?_;(case hd => rfl);(case hg => rfl);(case hr => first|(go_simp;done)|(go_simp;rfl));intro c_a hg w3 hbox hb;have b_8:=a_b.mk (hbox);have g_G:=a_b.mk ((by rw [hg];exact (a_g (lup_ HB.out)) : w.heap.size ≤ c_a));have e_s:=a_b.mk ((by rw [hg];exact (a_g (lup_ HB.out)) : w.heap.size ≤ c_a));replace HB:=a_b.mk (a_h (lup_ HB.out) hb);clear hb hbox hg;have g_x : w3.cell? ⟨c_a,0,none⟩ = some (.int .i64 a0_0):=(a_l b_8.out 0).trans rfl;have j_o : w3.cell? ⟨c_a,1,none⟩ = some (.int .i64 a0_1):=(a_l b_8.out 1).trans rfl;have g_z:=a_i b_8.out 0;have j_t:=a_i b_8.out 1))
  go_ret
  exact ⟨by first|rfl|(simp [a_p,a_q] <;> rfl)|(simp [*, a_p,a_q] <;> rfl),by repeat (first|(with_reducible first|exact HB.out|apply a_e|apply a_c|apply a_f|refine a_d ?_ e_s.out)|exact HB.out)⟩
 rw [if_neg c2] at H
 have c2b0 : decide (a0_0 < 0) = false:=decide_eq_false c2
 clear c2
 by_cases c5 : a0_0 ≥ 4
 ·rw [if_pos c5] at H
  have c5b0 : decide (4 ≤ a0_0) = true:=decide_eq_true c5
  clear c5
  obtain rfl:=Option.some.inj H
  go_enter Tryd.func47,Tryd.ntmps47
  go_wp2_with (first|((with_reducible refine a_D (N:=1) rfl ?_);refine a_A ?hg (N:=1) ?hd (cs:=#[.int .i64 a0_0,.int .i64 a0_1]) (t:=56) ?hr ?_;(case hd => rfl);(case hg => rfl);(case hr => first|(go_simp;done)|(go_simp;rfl));intro c_a hg w6 hbox hb;have b_8:=a_b.mk (hbox);have g_G:=a_b.mk ((by rw [hg];exact (a_g (lup_ HB.out)) : w.heap.size ≤ c_a));have e_s:=a_b.mk ((by rw [hg];exact (a_g (lup_ HB.out)) : w.heap.size ≤ c_a));replace HB:=a_b.mk (a_h (lup_ HB.out) hb);clear hb hbox hg;have g_y : w6.cell? ⟨c_a,0,none⟩ = some (.int .i64 a0_0):=(a_l b_8.out 0).trans rfl;have j_q : w6.cell? ⟨c_a,1,none⟩ = some (.int .i64 a0_1):=(a_l b_8.out 1).trans rfl;have g_A:=a_i b_8.out 0;have j_v:=a_i b_8.out 1))
  go_ret
  exact ⟨by first|rfl|(simp [a_p,a_q] <;> rfl)|(simp [*, a_p,a_q] <;> rfl),by repeat (first|(with_reducible first|exact HB.out|apply a_e|apply a_c|apply a_f|refine a_d ?_ e_s.out)|exact HB.out)⟩
 rw [if_neg c5] at H
 have c5b0 : decide (4 ≤ a0_0) = false:=decide_eq_false c5
 clear c5
 by_cases c8 : a0_1 < 0
 ·rw [if_pos c8] at H
  have c8b0 : decide (a0_1 < 0) = true:=decide_eq_true c8
  clear c8
  obtain rfl:=Option.some.inj H
  go_enter Tryd.func47,Tryd.ntmps47
  go_wp2_with (first|((with_reducible refine a_D (N:=1) rfl ?_);refine a_A ?hg (N:=1) ?hd (cs:=#[.int .i64 a0_0,.int .i64 a0_1]) (t:=56) ?hr ?_;(case hd => rfl);(case hg => rfl);(case hr => first|(go_simp;done)|(go_simp;rfl));intro c_a hg w9 hbox hb;have b_8:=a_b.mk (hbox);have g_G:=a_b.mk ((by rw [hg];exact (a_g (lup_ HB.out)) : w.heap.size ≤ c_a));have e_s:=a_b.mk ((by rw [hg];exact (a_g (lup_ HB.out)) : w.heap.size ≤ c_a));replace HB:=a_b.mk (a_h (lup_ HB.out) hb);clear hb hbox hg;have i_d : w9.cell? ⟨c_a,0,none⟩ = some (.int .i64 a0_0):=(a_l b_8.out 0).trans rfl;have i_e : w9.cell? ⟨c_a,1,none⟩ = some (.int .i64 a0_1):=(a_l b_8.out 1).trans rfl;have i_K:=a_i b_8.out 0;have i_L:=a_i b_8.out 1))
  go_ret
  exact ⟨by first|rfl|(simp [a_p,a_q] <;> rfl)|(simp [*, a_p,a_q] <;> rfl),by repeat (first|(with_reducible first|exact HB.out|apply a_e|apply a_c|apply a_f|refine a_d ?_ e_s.out)|exact HB.out)⟩
 rw [if_neg c8] at H
 have c8b0 : decide (a0_1 < 0) = false:=decide_eq_false c8
 clear c8
 obtain rfl:=Option.some.inj H
 go_enter Tryd.func47,Tryd.ntmps47
 go_wp2_with (first|((with_reducible refine a_D (N:=1) rfl ?_);refine a_A ?hg (N:=1) ?hd (cs:=#[.int .i64 a0_0,.int .i64 a0_1]) (t:=56) ?hr ?_;(case hd => rfl);(case hg => rfl);(case hr => first|(go_simp;done)|(go_simp;rfl));intro c_a hg w11 hbox hb;have b_8:=a_b.mk (hbox);have g_G:=a_b.mk ((by rw [hg];exact (a_g (lup_ HB.out)) : w.heap.size ≤ c_a));have e_s:=a_b.mk ((by rw [hg];exact (a_g (lup_ HB.out)) : w.heap.size ≤ c_a));replace HB:=a_b.mk (a_h (lup_ HB.out) hb);clear hb hbox hg;have g_N : w11.cell? ⟨c_a,0,none⟩ = some (.int .i64 a0_0):=(a_l b_8.out 0).trans rfl;have i_f : w11.cell? ⟨c_a,1,none⟩ = some (.int .i64 a0_1):=(a_l b_8.out 1).trans rfl;have g_U:=a_i b_8.out 0;have i_M:=a_i b_8.out 1))
 go_ret
 exact ⟨by first|rfl|(simp [a_p,a_q] <;> rfl)|(simp [*, a_p,a_q] <;> rfl),by repeat (first|(with_reducible first|exact HB.out|apply a_e|apply a_c|apply a_f|refine a_d ?_ e_s.out)|exact HB.out)⟩
end Go.Proofs.YtcpfcehfgenljaaDoor.Q
end
section
namespace Go.Proofs.YtcpfcehfgenljaaDoor.Q
open Go.RowKit Go.Proofs.YtcpfcehfgenljaaDoorW.PrintWords Go.Proofs.YtcpfcehfgenljaaDoorW.PrintLast Go.Proofs.YtcpfcehfgenljaaDoorW.PrintMore
set_option linter.unusedVariables false
set_option linter.unusedSimpArgs false
set_option maxHeartbeats 2000000 in
theorem c_k.any (g : Nat) (lb : Array Value) (eg : ∀ args w,(callFunc g args).run Tryd.prog w = .ok (.enter g args) w) (p : S56 → Bool) (A : Option Addr) (c : Nat) (xs : List S56) (w : World)
 (hr : Kd.C k56 w A xs.length xs) (hlen : xs.length ≤ 1099511627776)
 (hp : ∀ W,Below w.heap.size w W → ∀ x ∈ xs,Calls Tryd.prog g (#[.agg #[.int .i64 x.f0,.int .i64 x.f1]] ++ lb) W fun e W' => e = .returned (.bool (p x)) ∧ Below W.heap.size W W') :
 Calls Tryd.prog 58 #[.slice A xs.length c,.func (.func g) #[] lb] w fun e w' => e = .returned (.int .i64 (idxOf p xs)) ∧ Below w.heap.size w w':=by
 have HP:=a_b.mk hp
 have HR:=a_b.mk hr
 clear hp hr
 go_enter Tryd.func58,Tryd.ntmps58
 go_wp2
 go_loopg [5,8] xs.length (fun gg _ s8 wr => ∃ kk : Nat,s8 = .int .i64 kk ∧ kk ≤ xs.length ∧ xs.length - kk ≤ gg ∧ a_b (Below w.heap.size w wr) ∧ a_b (∀ j (hj : j < kk) (hj2 : j < xs.length),p xs[j] = false))
 case atStart => exact ⟨0,rfl,Nat.zero_le _,by omega,⟨Below.refl _ _⟩,⟨fun j hj => absurd hj (Nat.not_lt_zero _)⟩⟩
 case round =>
  obtain ⟨kk,rfl,hkk,hg,HB,HN⟩:=hrel
  by_cases hlt : kk < xs.length
  rotate_left
  ·have hltz : ¬ (kk : Int) < (xs.length : Int):=by omega
   have : kk = xs.length:=by omega
   go_wp2
   go_ret
   refine ⟨?_,HB.out⟩
   rw [idxOf_miss (fun j hj => HN.out j (by omega) hj)];rfl
  have hltz : (kk : Int) < (xs.length : Int):=by omega
  obtain ⟨ad,rfl,e0,e1⟩:=e_G (Kd.a_N HR.out HB.out) (kk : Int) (by omega) (by omega)
  have hx:=List.getElem_mem hlt
  have hrd : a_u xs (kk : Int) = xs[kk]:=by unfold a_u;simp [hlt]
  rw [hrd] at e0 e1
  simp only [Int.toNat_natCast] at e0 e1
  have hcall:=HP.out _ HB.out _ hx
  generalize hy : xs[kk] = y at e0 e1 hcall hx
  have HY:=a_b.mk hy
  clear hy hx hrd
  cases hq : p y with
  | true =>
   rw [hq] at hcall
   go_wp2_with (go_at_fn g;refine hcall.mono ?_;rintro e w' ⟨rfl,hb'⟩)
   go_ret
   refine ⟨?_,HB.out.trans (hb'.mono (a_g HB.out))⟩
   rw [idxOf_hit hlt (by rw [HY.out];exact hq) (fun j hj => HN.out j hj (by omega))];rfl
  | false =>
   rw [hq] at hcall
   go_wp2_with (go_at_fn g;refine hcall.mono ?_;rintro e w' ⟨rfl,hb'⟩)
   go_roundg (xs.length - (kk + 1))
   case measure => omega
   case rel =>
    exact ⟨kk + 1,by go_num,by omega,by omega,⟨HB.out.trans (hb'.mono (a_g HB.out))⟩,⟨fun j hj hj2 => by
     by_cases e : j = kk
     ·subst e;rw [HY.out];exact hq
     exact HN.out j (by omega) hj2⟩⟩
end Go.Proofs.YtcpfcehfgenljaaDoor.Q
end
section
namespace Go.Proofs.YtcpfcehfgenljaaDoor.Q
open Go.RowKit Go.Proofs.YtcpfcehfgenljaaDoorW.PrintWords Go.Proofs.YtcpfcehfgenljaaDoorW.PrintLast Go.Proofs.YtcpfcehfgenljaaDoorW.PrintMore
set_option linter.unusedVariables false
set_option linter.unusedSimpArgs false
def e_o (x : S56) : Bool:=decide (x.f0 < 0) || decide (x.f0 ≥ 4) || decide (x.f1 < 0) || decide (x.f1 ≥ 8)
theorem d_0 (x : S56) : b_Z.f x.f0 x.f1 = some (e_o x):=by
 unfold b_Z.f e_o
 by_cases h0 : x.f0 < 0
 ·rw [if_pos h0,decide_eq_true h0];rfl
 by_cases h1 : x.f0 ≥ 4
 ·rw [if_neg h0,if_pos h1,decide_eq_true h1,Bool.or_true];rfl
 by_cases h2 : x.f1 < 0
 ·rw [if_neg h0,if_neg h1,if_pos h2,decide_eq_true h2,Bool.or_true];rfl
 rw [if_neg h0,if_neg h1,if_neg h2,decide_eq_false h0,decide_eq_false h1,decide_eq_false h2];rfl
def a_y.f (l0 : List S56) : Option Bool:=if l0.length ≤ 1099511627776 then some (l0.any e_o) else none
set_option maxHeartbeats 2000000 in
theorem a_y.calls (A0 : Option Addr) (c0 : Nat) (l0 : List S56) (r : Bool) (w : World) (hr0 : Kd.C k56 w A0 l0.length l0) (hc0 : l0.length ≤ c0) (h : a_y.f l0 = some r) :
 Calls Tryd.prog 46 #[.slice A0 l0.length c0,.func (.func 47) #[] #[]] w fun e w' => e = .returned (.bool r) ∧ Below w.heap.size w w':=by
 unfold a_y.f at h
 split at h
 case isFalse => cases h
 case isTrue hl =>
 obtain rfl:=Option.some.inj h
 clear h
 rw [← e_g]
 have HR:=a_b.mk hr0
 clear hr0
 go_enter Tryd.func46,Tryd.ntmps46
 go_wp2_with (go_at_call 58;refine (c_k.any 47 #[] (c_M Tryd.func47 (by kernel_rfl) rfl) e_o A0 c0 l0 _ HR.out hl (fun W hW x _ => b_Z.calls _ _ _ W (d_0 x))).mono ?_;rintro e w' ⟨rfl,hb⟩)
 go_ret
 exact ⟨rfl,hb⟩
end Go.Proofs.YtcpfcehfgenljaaDoor.Q
end
section
namespace Go.Proofs.YtcpfcehfgenljaaDoor.Q
open Go.RowKit Go.Proofs.YtcpfcehfgenljaaDoorW.PrintWords Go.Proofs.YtcpfcehfgenljaaDoorW.PrintLast Go.Proofs.YtcpfcehfgenljaaDoorW.PrintMore
set_option linter.unusedVariables false
set_option linter.unusedSimpArgs false
def a_H.f (l0_0 : List (S56)) : Option (Int):=if (l0_0.length : Int) < 1 then (some 160) else (if (l0_0.length : Int) > 8 then (some 160) else ((a_y.f l0_0).bind fun t103 => (if t103 = true then (some 160) else (some 0))))
set_option maxHeartbeats 8000000 in
set_option maxRecDepth 100000 in
theorem a_H.calls (A0_0 : Option Addr) (c0_0 : Nat) (l0_0 : List (S56)) (r : Int) (w : World) (hr0_0 : Kd.C k56 w A0_0 l0_0.length l0_0) (hc0_0 : l0_0.length ≤ c0_0) (h : a_H.f l0_0 = some r) :
 Calls Tryd.prog 28 #[.agg #[.slice A0_0 l0_0.length c0_0]] w fun e w' => e = .returned (.int .i64 r) ∧ Below w.heap.size w w':=by
 have hu24:=Tryd.underlying24
 have b_M:=a_b.mk hr0_0
 have b_S:=a_b.mk hc0_0
 clear hr0_0 hc0_0
 have HB:=a_b.mk (Below.refl w.heap.size w)
 have H : (if (l0_0.length : Int) < 1 then (some 160) else (if (l0_0.length : Int) > 8 then (some 160) else ((a_y.f l0_0).bind fun t103 => (if t103 = true then (some 160) else (some 0))))) = some r:=h
 clear h
 by_cases c2 : (l0_0.length : Int) < 1
 ·rw [if_pos c2] at H
  have c2b0 : decide ((l0_0.length : Int) < 1) = true:=decide_eq_true c2
  have c2b1 : decide (l0_0.length < 1) = true:=decide_eq_true (by omega)
  clear c2
  obtain rfl:=Option.some.inj H
  go_enter Tryd.func28,Tryd.ntmps28
  go_wp2_with (first|((with_reducible refine a_D (N:=1) rfl ?_);(try (refine a_U (by rfl) ?_;dsimp only));refine a_A ?hg (N:=1) ?hd (cs:=#[.slice A0_0 l0_0.length c0_0]) (t:=24) ?hr ?_;(case hd => rfl);(case hg => rfl);(case hr => first|(go_simp;done)|(go_simp;rfl));intro c_v hg w3 hbox hb;have c_r:=a_b.mk (hbox);have g_H:=a_b.mk ((by rw [hg];exact (a_g (lup_ HB.out)) : w.heap.size ≤ c_v));have d_L:=a_b.mk ((by rw [hg];exact (a_g (lup_ HB.out)) : w.heap.size ≤ c_v));replace HB:=a_b.mk (a_h (lup_ HB.out) hb);clear hb hbox hg;have g_x : w3.cell? ⟨c_v,0,none⟩ = some (.slice A0_0 l0_0.length c0_0):=(a_l c_r.out 0).trans rfl;have g_z:=a_i c_r.out 0))
  go_ret
  exact ⟨by first|rfl|(simp [a_p,a_q] <;> rfl)|(simp [*, a_p,a_q] <;> rfl),by repeat (first|(with_reducible first|exact HB.out|apply a_e|apply a_c|apply a_f|refine a_d ?_ d_L.out)|exact HB.out)⟩
 rw [if_neg c2] at H
 have c2b0 : decide ((l0_0.length : Int) < 1) = false:=decide_eq_false c2
 have c2b1 : decide (l0_0.length < 1) = false:=decide_eq_false (by omega)
 clear c2
 by_cases c5 : (l0_0.length : Int) > 8
 ·rw [if_pos c5] at H
  have c5b0 : decide (8 < (l0_0.length : Int)) = true:=decide_eq_true c5
  have c5b1 : decide (8 < l0_0.length) = true:=decide_eq_true (by omega)
  clear c5
  obtain rfl:=Option.some.inj H
  go_enter Tryd.func28,Tryd.ntmps28
  go_wp2_with (first|((with_reducible refine a_D (N:=1) rfl ?_);(try (refine a_U (by rfl) ?_;dsimp only));refine a_A ?hg (N:=1) ?hd (cs:=#[.slice A0_0 l0_0.length c0_0]) (t:=24) ?hr ?_;(case hd => rfl);(case hg => rfl);(case hr => first|(go_simp;done)|(go_simp;rfl));intro c_v hg w6 hbox hb;have c_r:=a_b.mk (hbox);have g_H:=a_b.mk ((by rw [hg];exact (a_g (lup_ HB.out)) : w.heap.size ≤ c_v));have d_L:=a_b.mk ((by rw [hg];exact (a_g (lup_ HB.out)) : w.heap.size ≤ c_v));replace HB:=a_b.mk (a_h (lup_ HB.out) hb);clear hb hbox hg;have g_y : w6.cell? ⟨c_v,0,none⟩ = some (.slice A0_0 l0_0.length c0_0):=(a_l c_r.out 0).trans rfl;have g_A:=a_i c_r.out 0))
  go_ret
  exact ⟨by first|rfl|(simp [a_p,a_q] <;> rfl)|(simp [*, a_p,a_q] <;> rfl),by repeat (first|(with_reducible first|exact HB.out|apply a_e|apply a_c|apply a_f|refine a_d ?_ d_L.out)|exact HB.out)⟩
 rw [if_neg c5] at H
 have c5b0 : decide (8 < (l0_0.length : Int)) = false:=decide_eq_false c5
 have c5b1 : decide (8 < l0_0.length) = false:=decide_eq_false (by omega)
 clear c5
 replace H:=Option.bind_eq_some_iff.mp H
 obtain ⟨t103,A80,H⟩:=H
 replace H : (if t103 = true then (some 160) else (some 0)) = some r:=H
 have A8:=a_b.mk A80
 clear A80
 by_cases c9 : t103 = true
 ·subst c9
  have H1 : (some 160) = some r:=by rw [if_pos rfl] at H;exact H
  clear H
  have H:=H1
  clear H1
  obtain rfl:=Option.some.inj H
  go_enter Tryd.func28,Tryd.ntmps28
  go_wp2_with (first|((with_reducible refine a_D (N:=1) rfl ?_);(try (refine a_U (by rfl) ?_;dsimp only));refine a_A ?hg (N:=1) ?hd (cs:=#[.slice A0_0 l0_0.length c0_0]) (t:=24) ?hr ?_;(case hd => rfl);(case hg => rfl);(case hr => first|(go_simp;done)|(go_simp;rfl));intro c_v hg w10 hbox hb;have c_r:=a_b.mk (hbox);have g_H:=a_b.mk ((by rw [hg];exact (a_g (lup_ HB.out)) : w.heap.size ≤ c_v));have d_L:=a_b.mk ((by rw [hg];exact (a_g (lup_ HB.out)) : w.heap.size ≤ c_v));replace HB:=a_b.mk (a_h (lup_ HB.out) hb);clear hb hbox hg;have c_N : w10.cell? ⟨c_v,0,none⟩ = some (.slice A0_0 l0_0.length c0_0):=(a_l c_r.out 0).trans rfl;have c_O:=a_i c_r.out 0)|(go_at_call 46;(with_reducible refine (a_y.calls _ _ l0_0  true _ ?side1 ?side2 A8.out).mono ?_);(case side1 => repeat (first|exact (Kd.a_N b_M.out HB.out)|(with_reducible refine Kd.a_I ?_ _)|(with_reducible refine Kd.a_J ?_ _)|(with_reducible refine Kd.a_X ?_)));(case side2 => exact b_S.out);rintro e w12 ⟨rfl,hb⟩;replace c_r:=a_b.mk (a_k (bup_ c_r.out) hb);replace HB:=a_b.mk (a_h (by repeat (first|(with_reducible first|exact HB.out|apply a_e|apply a_c|apply a_f|refine a_d ?_ d_L.out)|exact HB.out)) hb);(try clear hb);(try clear hb2);(try clear hk);(try clear hi)))
  go_ret
  exact ⟨by first|rfl|(simp [a_p,a_q] <;> rfl)|(simp [*, a_p,a_q] <;> rfl),by repeat (first|(with_reducible first|exact HB.out|apply a_e|apply a_c|apply a_f|refine a_d ?_ d_L.out)|exact HB.out)⟩
 replace c9:=Bool.eq_false_iff.mpr c9
 subst c9
 have H1 : (some 0) = some r:=by rw [if_neg (show ¬ (false = true) by decide)] at H;exact H
 clear H
 have H:=H1
 clear H1
 obtain rfl:=Option.some.inj H
 go_enter Tryd.func28,Tryd.ntmps28
 go_wp2_with (first|((with_reducible refine a_D (N:=1) rfl ?_);(try (refine a_U (by rfl) ?_;dsimp only));refine a_A ?hg (N:=1) ?hd (cs:=#[.slice A0_0 l0_0.length c0_0]) (t:=24) ?hr ?_;(case hd => rfl);(case hg => rfl);(case hr => first|(go_simp;done)|(go_simp;rfl));intro c_v hg w13 hbox hb;have c_r:=a_b.mk (hbox);have g_H:=a_b.mk ((by rw [hg];exact (a_g (lup_ HB.out)) : w.heap.size ≤ c_v));have d_L:=a_b.mk ((by rw [hg];exact (a_g (lup_ HB.out)) : w.heap.size ≤ c_v));replace HB:=a_b.mk (a_h (lup_ HB.out) hb);clear hb hbox hg;have g_O : w13.cell? ⟨c_v,0,none⟩ = some (.slice A0_0 l0_0.length c0_0):=(a_l c_r.out 0).trans rfl;have g_V:=a_i c_r.out 0)|(go_at_call 46;(with_reducible refine (a_y.calls _ _ l0_0  false _ ?side1 ?side2 A8.out).mono ?_);(case side1 => repeat (first|exact (Kd.a_N b_M.out HB.out)|(with_reducible refine Kd.a_I ?_ _)|(with_reducible refine Kd.a_J ?_ _)|(with_reducible refine Kd.a_X ?_)));(case side2 => exact b_S.out);rintro e w15 ⟨rfl,hb⟩;replace c_r:=a_b.mk (a_k (bup_ c_r.out) hb);replace HB:=a_b.mk (a_h (by repeat (first|(with_reducible first|exact HB.out|apply a_e|apply a_c|apply a_f|refine a_d ?_ d_L.out)|exact HB.out)) hb);(try clear hb);(try clear hb2);(try clear hk);(try clear hi)))
 go_ret
 exact ⟨by first|rfl|(simp [a_p,a_q] <;> rfl)|(simp [*, a_p,a_q] <;> rfl),by repeat (first|(with_reducible first|exact HB.out|apply a_e|apply a_c|apply a_f|refine a_d ?_ d_L.out)|exact HB.out)⟩
end Go.Proofs.YtcpfcehfgenljaaDoor.Q
end
section
namespace Go.Proofs.YtcpfcehfgenljaaDoor.Q
open Go.RowKit Go.Proofs.YtcpfcehfgenljaaDoorW.PrintWords Go.Proofs.YtcpfcehfgenljaaDoorW.PrintLast Go.Proofs.YtcpfcehfgenljaaDoorW.PrintMore
set_option linter.unusedVariables false
set_option linter.unusedSimpArgs false
def a_Q.f (l0_0 : List (S56)) (a1 : Int) : Option (Bool):=if a1 ≥ 0 then (some (decide (a1 < (l0_0.length : Int)))) else (some false)
set_option maxHeartbeats 8000000 in
set_option maxRecDepth 100000 in
theorem a_Q.calls (A0_0 : Option Addr) (c0_0 : Nat) (l0_0 : List (S56)) (a1 : Int) (r : Bool) (w : World) (hr0_0 : Kd.C k56 w A0_0 l0_0.length l0_0) (hc0_0 : l0_0.length ≤ c0_0) (h : a_Q.f l0_0 a1 = some r) :
 Calls Tryd.prog 39 #[.agg #[.slice A0_0 l0_0.length c0_0],.int .i64 a1] w fun e w' => e = .returned (.bool r) ∧ Below w.heap.size w w':=by
 have hu24:=Tryd.underlying24
 have b_M:=a_b.mk hr0_0
 have b_S:=a_b.mk hc0_0
 clear hr0_0 hc0_0
 have HB:=a_b.mk (Below.refl w.heap.size w)
 have H : (if a1 ≥ 0 then (some (decide (a1 < (l0_0.length : Int)))) else (some false)) = some r:=h
 clear h
 by_cases c3 : a1 ≥ 0
 ·rw [if_pos c3] at H
  have c3b0 : decide (0 ≤ a1) = true:=decide_eq_true c3
  clear c3
  obtain rfl:=Option.some.inj H
  go_enter Tryd.func39,Tryd.ntmps39
  go_wp2_with (first|((with_reducible refine a_D (N:=2) rfl ?_);(try (refine a_U (by rfl) ?_;dsimp only));refine a_A ?hg (N:=2) ?hd (cs:=#[.slice A0_0 l0_0.length c0_0]) (t:=24) ?hr ?_;(case hd => rfl);(case hg => rfl);(case hr => first|(go_simp;done)|(go_simp;rfl));intro e_Z hg w4 hbox hb;have g_B:=a_b.mk (hbox);have h_Q:=a_b.mk ((by rw [hg];exact (a_g (lup_ HB.out)) : w.heap.size ≤ e_Z));have g_E:=a_b.mk ((by rw [hg];exact (a_g (lup_ HB.out)) : w.heap.size ≤ e_Z));replace HB:=a_b.mk (a_h (lup_ HB.out) hb);clear hb hbox hg;have j_p : w4.cell? ⟨e_Z,0,none⟩ = some (.slice A0_0 l0_0.length c0_0):=(a_l g_B.out 0).trans rfl;have j_u:=a_i g_B.out 0))
  go_ret
  exact ⟨by first|rfl|(simp [a_p,a_q] <;> rfl)|(simp [*, a_p,a_q] <;> rfl),by repeat (first|(with_reducible first|exact HB.out|apply a_e|apply a_c|apply a_f|refine a_d ?_ g_E.out)|exact HB.out)⟩
 rw [if_neg c3] at H
 have c3b0 : decide (0 ≤ a1) = false:=decide_eq_false c3
 clear c3
 obtain rfl:=Option.some.inj H
 go_enter Tryd.func39,Tryd.ntmps39
 go_wp2_with (first|((with_reducible refine a_D (N:=2) rfl ?_);(try (refine a_U (by rfl) ?_;dsimp only));refine a_A ?hg (N:=2) ?hd (cs:=#[.slice A0_0 l0_0.length c0_0]) (t:=24) ?hr ?_;(case hd => rfl);(case hg => rfl);(case hr => first|(go_simp;done)|(go_simp;rfl));intro e_Z hg w6 hbox hb;have g_B:=a_b.mk (hbox);have h_Q:=a_b.mk ((by rw [hg];exact (a_g (lup_ HB.out)) : w.heap.size ≤ e_Z));have g_E:=a_b.mk ((by rw [hg];exact (a_g (lup_ HB.out)) : w.heap.size ≤ e_Z));replace HB:=a_b.mk (a_h (lup_ HB.out) hb);clear hb hbox hg))
 go_ret
 exact ⟨by first|rfl|(simp [a_p,a_q] <;> rfl)|(simp [*, a_p,a_q] <;> rfl),by repeat (first|(with_reducible first|exact HB.out|apply a_e|apply a_c|apply a_f|refine a_d ?_ g_E.out)|exact HB.out)⟩
end Go.Proofs.YtcpfcehfgenljaaDoor.Q
end
section
namespace Go.Proofs.YtcpfcehfgenljaaDoor.Q
open Go.RowKit Go.Proofs.YtcpfcehfgenljaaDoorW.PrintWords Go.Proofs.YtcpfcehfgenljaaDoorW.PrintLast Go.Proofs.YtcpfcehfgenljaaDoorW.PrintMore
set_option linter.unusedVariables false
set_option linter.unusedSimpArgs false
theorem i_b (d : Nat) (w : World) (x0 y0 : Int) (x1 y1 : Int) :
 (Op.equalIn (d + 2) 56 (.agg #[.int .i64 x0,.int .i64 x1]) (.agg #[.int .i64 y0,.int .i64 y1])).run Tryd.prog w = .ok (x0 == y0 && (x1 == y1)) w:=by
 refine h_v Tryd.underlying56 (by kernel_rfl) ?_
 refine g_d (by rfl) (by go_simp;rfl) (by go_simp;rfl) (by go_simp) ?_
 exact g_e (by rfl) (by go_simp;rfl) (by go_simp;rfl) (by go_simp)
end Go.Proofs.YtcpfcehfgenljaaDoor.Q
end
section
namespace Go.Proofs.YtcpfcehfgenljaaDoor.Q
open Go.RowKit Go.Proofs.YtcpfcehfgenljaaDoorW.PrintWords Go.Proofs.YtcpfcehfgenljaaDoorW.PrintLast Go.Proofs.YtcpfcehfgenljaaDoorW.PrintMore
set_option linter.unusedVariables false
set_option linter.unusedSimpArgs false
attribute [local go_sem high] i_b
def a_w.j0 : Nat → Int → Int → Int → Int → Int → Int → Int → Option (Int)
 | 0,_,_,_,_,_,_,_ => none
 | k + 1,x1,x2,x9,x109000,x109001,x110000,x110001 => if (x109000 == x110000 && (x109001 == x110001)) = true then (if x1 = x2 then (some 0) else (some 1)) else (if x1 = x2 then (some 0) else (some x9))
def a_w.f (k : Nat) (l0_0 : List (S56)) (a1 : Int) (a2 : Int) : Option (Int):=if 0 ≤ a1 then (if a1 < (l0_0.length : Int) then (if 0 ≤ a2 then (if a2 < (l0_0.length : Int) then (if ((a_u l0_0 a1).f0) = ((a_u l0_0 a2).f0) then (a_w.j0 k a1 a2 2 ((a_u l0_0 a1).f0) ((a_u l0_0 a1).f1) ((a_u l0_0 a2).f0) ((a_u l0_0 a2).f1)) else (a_w.j0 k a1 a2 3 ((a_u l0_0 a1).f0) ((a_u l0_0 a1).f1) ((a_u l0_0 a2).f0) ((a_u l0_0 a2).f1))) else (none)) else (none)) else (none)) else (none)
theorem a_w.c_i : ∀ k,(∀ y0 y1 y2 y3 y4 y5 y6,LeO (a_w.j0 k y0 y1 y2 y3 y4 y5 y6) (a_w.j0 (k + 1) y0 y1 y2 y3 y4 y5 y6))
 | 0 => fun _ _ _ _ _ _ _ r h => by simp [a_w.j0] at h
 | k + 1 => by
  have ih0:=a_w.c_i k
  ·intro y0 y1 y2 y3 y4 y5 y6
   unfold a_w.j0
   repeat' first
   | (with_reducible exact ih0 _ _ _ _ _ _ _)
   | (with_reducible exact LeO.refl _)
   | (with_reducible exact LeO.none _)
   | (with_reducible refine LeO.ite ?_ ?_)
   | (with_reducible refine LeO.bind ?_ (fun _ => ?_))
   | exact ih0 _ _ _ _ _ _ _
   | exact LeO.none _
   | refine LeO.ite ?_ ?_
   | refine LeO.bind ?_ (fun _ => ?_)
theorem a_w.mono : ∀ a0 a1 a2 k,LeO (a_w.f k a0 a1 a2) (a_w.f (k + 1) a0 a1 a2):=by
 intro a0 a1 a2 k
 have ih0:=a_w.c_i k
 unfold a_w.f
 repeat' first
  | (with_reducible exact ih0 _ _ _ _ _ _ _)
  | (with_reducible exact LeO.refl _)
  | (with_reducible exact LeO.none _)
  | (with_reducible refine LeO.ite ?_ ?_)
  | (with_reducible refine LeO.bind ?_ (fun _ => ?_))
  | exact ih0 _ _ _ _ _ _ _
  | exact LeO.none _
  | refine LeO.ite ?_ ?_
  | refine LeO.bind ?_ (fun _ => ?_)
def a_w.T1 : Bool × List (List Nat × List Nat):=(true,[([],[]),([0],[0]),([],[]),([1,2],[1,2]),([3],[3]),([],[]),([5],[5]),([],[]),([6,7],[6,7]),([8],[8]),([],[]),([],[]),([10,4,0,1,2,3,4,10,11],[4,10]),([11,9,12,0,1,2,3,4,5,6,7,8,9,10,11,12],[9,11])])
def a_w.B1 : List Nat:=[0,1,0,7,15,0,32,0,224,480,0,0,3103,8191]
theorem a_w.tab1 : rtab .any (opsOf Tryd.f40 1) = a_w.T1:=by kernel_rfl
theorem a_w.h_Z : c_y a_w.T1.2 a_w.B1 = true:=by kernel_rfl
set_option maxHeartbeats 8000000 in
set_option maxRecDepth 100000 in
theorem a_w.calls (k : Nat) (A0_0 : Option Addr) (c0_0 : Nat) (l0_0 : List (S56)) (a1 : Int) (a2 : Int) (r : Int) (w : World) (hr0_0 : Kd.C k56 w A0_0 l0_0.length l0_0) (hc0_0 : l0_0.length ≤ c0_0) (h : a_w.f k l0_0 a1 a2 = some r) :
 Calls Tryd.prog 40 #[.agg #[.slice A0_0 l0_0.length c0_0],.int .i64 a1,.int .i64 a2] w fun e w' => e = .returned (.int .i64 r) ∧ Below w.heap.size w w':=by
 have hu24:=Tryd.underlying24
 have hu56:=Tryd.underlying56
 have b_M:=a_b.mk hr0_0
 have b_S:=a_b.mk hc0_0
 clear hr0_0 hc0_0
 have HB:=a_b.mk (Below.refl w.heap.size w)
 have H : (if 0 ≤ a1 then (if a1 < (l0_0.length : Int) then (if 0 ≤ a2 then (if a2 < (l0_0.length : Int) then (if ((a_u l0_0 a1).f0) = ((a_u l0_0 a2).f0) then (a_w.j0 k a1 a2 2 ((a_u l0_0 a1).f0) ((a_u l0_0 a1).f1) ((a_u l0_0 a2).f0) ((a_u l0_0 a2).f1)) else (a_w.j0 k a1 a2 3 ((a_u l0_0 a1).f0) ((a_u l0_0 a1).f1) ((a_u l0_0 a2).f0) ((a_u l0_0 a2).f1))) else (none)) else (none)) else (none)) else (none)) = some r:=h
 clear h
 by_cases c4 : 0 ≤ a1
 rotate_left
 ·rw [if_neg c4] at H
  exact absurd H (by simp)
 rw [if_pos c4] at H
 have c4b0 : decide (0 ≤ a1) = true:=decide_eq_true c4
 clear c4
 by_cases c5 : a1 < (l0_0.length : Int)
 rotate_left
 ·rw [if_neg c5] at H
  exact absurd H (by simp)
 rw [if_pos c5] at H
 have c5b0 : decide (a1 < (l0_0.length : Int)) = true:=decide_eq_true c5
 clear c5
 by_cases c6 : 0 ≤ a2
 rotate_left
 ·rw [if_neg c6] at H
  exact absurd H (by simp)
 rw [if_pos c6] at H
 have c6b0 : decide (0 ≤ a2) = true:=decide_eq_true c6
 clear c6
 by_cases c7 : a2 < (l0_0.length : Int)
 rotate_left
 ·rw [if_neg c7] at H
  exact absurd H (by simp)
 rw [if_pos c7] at H
 have c7b0 : decide (a2 < (l0_0.length : Int)) = true:=decide_eq_true c7
 clear c7
 have HC8:=a_b.mk H
 clear H
 go_enter Tryd.func40,Tryd.ntmps40
 try go_wp2_with (first|((with_reducible refine a_D (N:=3) rfl ?_);refine a_A ?hg (N:=3) ?hd (cs:=#[.slice A0_0 l0_0.length c0_0]) (t:=24) ?hr ?_;(case hd => rfl);(case hg => rfl);(case hr => first|(go_simp;done)|(go_simp;rfl));intro b_V hg w9 hbox hb;have b_I:=a_b.mk (hbox);have j_y:=a_b.mk ((by rw [hg];exact (a_g (lup_ HB.out)) : w.heap.size ≤ b_V));have b_6:=a_b.mk ((by rw [hg];exact (a_g (lup_ HB.out)) : w.heap.size ≤ b_V));replace HB:=a_b.mk (a_h (lup_ HB.out) hb);clear hb hbox hg))
 replace b_I:=a_b.mk (a_o b_I.out)
 replace HB:=a_b.mk (a_f HB.out)
 have p106 : 0 ≤ (a1 : Int):=of_decide_eq_true (by first|(with_reducible assumption)|assumption)
 have q106 : a1 < (l0_0.length : Int):=of_decide_eq_true (by first|(with_reducible assumption)|assumption)
 obtain ⟨ad106,e106,c_P,c_Q⟩:=e_G b_M.out a1 p106 q106
 have a_7:=c_Q
 have a_6:=c_P
 cases e106
 replace c_P:=(HB.out.cell (World.block_lt_of_cell? w _ c_P)).trans c_P
 replace c_Q:=(HB.out.cell (World.block_lt_of_cell? w _ c_Q)).trans c_Q
 replace p106:=eq_true p106
 replace q106:=eq_true q106
 have p107 : 0 ≤ (a2 : Int):=of_decide_eq_true (by first|(with_reducible assumption)|assumption)
 have q107 : a2 < (l0_0.length : Int):=of_decide_eq_true (by first|(with_reducible assumption)|assumption)
 obtain ⟨ad107,e107,c_R,c_S⟩:=e_G b_M.out a2 p107 q107
 have a_9:=c_S
 have a_8:=c_R
 obtain rfl : ad106 = ad107:=(by injection e107)
 replace c_R:=(HB.out.cell (World.block_lt_of_cell? w _ c_R)).trans c_R
 replace c_S:=(HB.out.cell (World.block_lt_of_cell? w _ c_S)).trans c_S
 replace p107:=eq_true p107
 replace q107:=eq_true q107
 refine e_O (n:=14) (S:=fun w' => w'.cell? ⟨b_V,0,none⟩ = some (.slice (some ad106) l0_0.length c0_0) ∧ w'.cell? (ad106.add ((a1).toNat * 2)) = some (.int .i64 ((a_u l0_0 a1).f0)) ∧ w'.cell? ⟨(ad106.add ((a1).toNat * 2)).block,(ad106.add ((a1).toNat * 2)).off + 1,none⟩ = some (.int .i64 ((a_u l0_0 a1).f1)) ∧ w'.cell? (ad106.add ((a2).toNat * 2)) = some (.int .i64 ((a_u l0_0 a2).f0)) ∧ w'.cell? ⟨(ad106.add ((a2).toNat * 2)).block,(ad106.add ((a2).toNat * 2)).off + 1,none⟩ = some (.int .i64 ((a_u l0_0 a2).f1))) (ds:=[]) #[F_,F_,F_,F_,F_,F_,F_,F_,F_,F_,F_,F_,F_,F_] (by kernel_rfl) rfl rfl ⟨(a_l b_I.out 0).trans rfl,((HB.out.cell (World.block_lt_of_cell? w _ a_6)).trans a_6),((HB.out.cell (World.block_lt_of_cell? w _ a_7)).trans a_7),((HB.out.cell (World.block_lt_of_cell? w _ a_8)).trans a_8),((HB.out.cell (World.block_lt_of_cell? w _ a_9)).trans a_9)⟩ (fun hHeld => ?_);refine c_G a_w.tab1 a_w.h_Z (fun HT_ HW_ => ?_)
 generalize w9.drew = w10 at b_I HB c_P c_Q c_R c_S hHeld ⊢
 refine pt_ 0 (some 10) #[T_,F_,F_,F_,F_,F_,F_,F_,F_,F_,F_,F_,F_,F_] HT_ ?_
 refine pt_ 2 (some 12) #[T_,F_,T_,F_,F_,F_,F_,F_,F_,F_,F_,F_,F_,F_] HT_ ?_
 refine pt_ 5 (some 15) #[T_,F_,T_,F_,F_,T_,F_,F_,F_,F_,F_,F_,F_,F_] HT_ ?_
 refine pt_ 7 (some 17) #[T_,F_,T_,F_,F_,T_,F_,T_,F_,F_,F_,F_,F_,F_] HT_ ?_
 refine d_x (i:=1) (N:=some 11) (v:=?_) (a':=?_) #[T_,T_,T_,F_,F_,T_,F_,T_,F_,F_,F_,F_,F_,F_] rfl rfl (b_4 HT_.out HW_.out (by kernel_rfl)) (fun _ _ _ h => h) (Or.inl ⟨by rfl,?_⟩) hHeld ?_ ?_
 rotate_left
 ·rintro w' ⟨s0,s1,s2,s3,s4⟩
  go_simp
  with_reducible rfl
 rotate_left
 ·simp only [Act.put,sa_,sb_,sc_,b_Q,b_P]
  rfl
 refine pt_ 3 (some 13) #[T_,T_,T_,T_,F_,T_,F_,T_,F_,F_,F_,F_,F_,F_] HT_ ?_
 refine d_x (i:=4) (N:=some 14) (v:=?_) (a':=?_) #[T_,T_,T_,T_,T_,T_,F_,T_,F_,F_,F_,F_,F_,F_] rfl rfl (b_4 HT_.out HW_.out (by kernel_rfl)) (fun _ _ _ h => h) (Or.inl ⟨by rfl,?_⟩) hHeld ?_ ?_
 rotate_left
 ·rintro w' ⟨s0,s1,s2,s3,s4⟩
  go_simp
  with_reducible rfl
 rotate_left
 ·simp only [Act.put,sa_,sb_,sc_,b_Q,b_P]
  rfl
 refine d_x (i:=6) (N:=some 16) (v:=?_) (a':=?_) #[T_,T_,T_,T_,T_,T_,T_,T_,F_,F_,F_,F_,F_,F_] rfl rfl (b_4 HT_.out HW_.out (by kernel_rfl)) (fun _ _ _ h => h) (Or.inl ⟨by rfl,?_⟩) hHeld ?_ ?_
 rotate_left
 ·rintro w' ⟨s0,s1,s2,s3,s4⟩
  go_simp
  with_reducible rfl
 rotate_left
 ·simp only [Act.put,sa_,sb_,sc_,b_Q,b_P]
  rfl
 refine pt_ 8 (some 18) #[T_,T_,T_,T_,T_,T_,T_,T_,T_,F_,F_,F_,F_,F_] HT_ ?_
 refine d_x (i:=9) (N:=some 19) (v:=?_) (a':=?_) #[T_,T_,T_,T_,T_,T_,T_,T_,T_,T_,F_,F_,F_,F_] rfl rfl (b_4 HT_.out HW_.out (by kernel_rfl)) (fun _ _ _ h => h) (Or.inl ⟨by rfl,?_⟩) hHeld ?_ ?_
 rotate_left
 ·rintro w' ⟨s0,s1,s2,s3,s4⟩
  go_simp
  with_reducible rfl
 rotate_left
 ·simp only [Act.put,sa_,sb_,sc_,b_Q,b_P]
  rfl
 refine j_l (σ:=Nat × Nat) 2 Z0_ (fun s_ => [(7,.pointer (some ⟨s_.1,0,none⟩)),(8,.pointer (some ⟨s_.2,0,none⟩))]) (fun s_ w' => (w'.cell? ⟨b_V,0,none⟩ = some (.slice (some ad106) l0_0.length c0_0) ∧ w'.cell? (ad106.add ((a1).toNat * 2)) = some (.int .i64 ((a_u l0_0 a1).f0)) ∧ w'.cell? ⟨(ad106.add ((a1).toNat * 2)).block,(ad106.add ((a1).toNat * 2)).off + 1,none⟩ = some (.int .i64 ((a_u l0_0 a1).f1)) ∧ w'.cell? (ad106.add ((a2).toNat * 2)) = some (.int .i64 ((a_u l0_0 a2).f0)) ∧ w'.cell? ⟨(ad106.add ((a2).toNat * 2)).block,(ad106.add ((a2).toNat * 2)).off + 1,none⟩ = some (.int .i64 ((a_u l0_0 a2).f1))) ∧ (w'.heap[b_V]? = some (.cells #[.slice (some ad106) l0_0.length c0_0] 24 (0,0))) ∧ (w'.heap[s_.1]? = some (.cells #[.int .i64 0,.int .i64 0] 56 (0,0))) ∧ (w'.heap[s_.2]? = some (.cells #[.int .i64 0,.int .i64 0] 56 (0,0))) ∧ (w.heap.size ≤ s_.1) ∧ (w.heap.size ≤ s_.1) ∧ (b_V ≠ s_.1) ∧ (s_.1 ≠ b_V) ∧ (s_.2 ≠ s_.1) ∧ (s_.1 ≠ s_.2) ∧ (w.heap.size ≤ s_.2) ∧ (w.heap.size ≤ s_.2) ∧ (b_V ≠ s_.2) ∧ (s_.2 ≠ b_V) ∧ (Below w.heap.size w w')) ?_ ?_
 rotate_left
 ·intro hCont
  refine two_ (i:=10) (j:=11) (Ni:=some 7) (Nj:=some 8) #[T_,T_,T_,T_,T_,T_,T_,T_,T_,T_,T_,F_,F_,F_] #[T_,T_,T_,T_,T_,T_,T_,T_,T_,T_,F_,T_,F_,F_] rfl rfl rfl rfl (h_L HT_.out (by kernel_rfl)) (by decide) (by decide) (fun K hK => ?_) (fun K hK => ?_)
  ·skip
   refine c_7 ?hg (N:=7) ?hd (cs:=#[.int .i64 0,.int .i64 0]) (t:=56) ?hr ?_;(case hd => rfl);(case hg => rfl);(case hr => first|(go_simp;done)|(go_simp;rfl))
   intro b_g hg w11 hbox hb
   have b_z:=a_b.mk (hbox)
   have b_x:=a_b.mk ((by rw [hg];exact (a_g (by repeat (first|(with_reducible first|exact HB.out|apply a_e|apply a_c|apply a_f|refine a_d ?_ b_6.out)|exact HB.out))) : w.heap.size ≤ b_g))
   have c_s:=a_b.mk ((by rw [hg];exact (a_g (by repeat (first|(with_reducible first|exact HB.out|apply a_e|apply a_c|apply a_f|refine a_d ?_ b_6.out)|exact HB.out))) : w.heap.size ≤ b_g))
   have a_2:=a_b.mk ((by rw [hg];exact Nat.ne_of_lt (a_1 (bup_ b_I.out)) : b_V ≠ b_g))
   have b_C:=a_b.mk ((by rw [hg];exact Nat.ne_of_gt (a_1 (bup_ b_I.out)) : b_g ≠ b_V))
   replace b_I:=a_b.mk (a_k (bup_ b_I.out) hb)
   replace HB:=a_b.mk (a_h (by repeat (first|(with_reducible first|exact HB.out|apply a_e|apply a_c|apply a_f|refine a_d ?_ b_6.out)|exact HB.out)) hb)
   clear hb hbox hg
   refine hK.out _ _ ⟨(a_l b_I.out 0).trans rfl,((HB.out.cell (World.block_lt_of_cell? w _ a_6)).trans a_6),((HB.out.cell (World.block_lt_of_cell? w _ a_7)).trans a_7),((HB.out.cell (World.block_lt_of_cell? w _ a_8)).trans a_8),((HB.out.cell (World.block_lt_of_cell? w _ a_9)).trans a_9)⟩ (fun hHeld => ?_)
   clear hK K
   refine c_4 (a':=?_) ?_ ?_
   rotate_left
   ·show Act.put _ (some 7) _ = _
    simp only [Act.put,sa_,sb_,sc_,b_Q,b_P]
    rfl
   refine one_ (i:=11) (N:=some 8) Z0_ rfl rfl (c_q HT_.out (by kernel_rfl)) (by decide) (fun K hK => ?_)
   refine c_7 ?hg (N:=8) ?hd (cs:=#[.int .i64 0,.int .i64 0]) (t:=56) ?hr ?_;(case hd => rfl);(case hg => rfl);(case hr => first|(go_simp;done)|(go_simp;rfl))
   intro b_h hg w12 hbox hb
   have b_A:=a_b.mk (hbox)
   have b_y:=a_b.mk ((by rw [hg];exact (a_g (by repeat (first|(with_reducible first|exact HB.out|apply a_e|apply a_c|apply a_f|refine a_d ?_ b_6.out|refine a_d ?_ c_s.out)|exact HB.out))) : w.heap.size ≤ b_h))
   have c_t:=a_b.mk ((by rw [hg];exact (a_g (by repeat (first|(with_reducible first|exact HB.out|apply a_e|apply a_c|apply a_f|refine a_d ?_ b_6.out|refine a_d ?_ c_s.out)|exact HB.out))) : w.heap.size ≤ b_h))
   have a_3:=a_b.mk ((by rw [hg];exact Nat.ne_of_lt (a_1 (bup_ b_I.out)) : b_V ≠ b_h))
   have b_D:=a_b.mk ((by rw [hg];exact Nat.ne_of_gt (a_1 (bup_ b_I.out)) : b_h ≠ b_V))
   have a_4:=a_b.mk ((by rw [hg];exact Nat.ne_of_lt (a_1 (bup_ b_z.out)) : b_g ≠ b_h))
   have a_5:=a_b.mk ((by rw [hg];exact Nat.ne_of_gt (a_1 (bup_ b_z.out)) : b_h ≠ b_g))
   replace b_I:=a_b.mk (a_k (bup_ b_I.out) hb)
   replace b_z:=a_b.mk (a_k (bup_ b_z.out) hb)
   replace HB:=a_b.mk (a_h (by repeat (first|(with_reducible first|exact HB.out|apply a_e|apply a_c|apply a_f|refine a_d ?_ b_6.out|refine a_d ?_ c_s.out)|exact HB.out)) hb)
   clear hb hbox hg
   refine hK.out _ _ ⟨(a_l b_I.out 0).trans rfl,((HB.out.cell (World.block_lt_of_cell? w _ a_6)).trans a_6),((HB.out.cell (World.block_lt_of_cell? w _ a_7)).trans a_7),((HB.out.cell (World.block_lt_of_cell? w _ a_8)).trans a_8),((HB.out.cell (World.block_lt_of_cell? w _ a_9)).trans a_9)⟩ (fun hHeld => ?_)
   clear hK K
   refine c_4 (a':=?_) ?_ ?_
   rotate_left
   ·show Act.put _ (some 8) _ = _
    simp only [Act.put,sa_,sb_,sc_,b_Q,b_P]
    rfl
   exact c_4 (by simp only [d_E,Act.put,sa_,sb_,sc_]) (hCont (b_g,b_h) _ ⟨hHeld,(bup_ b_I.out),(bup_ b_z.out),(bup_ b_A.out),b_x.out,c_s.out,a_2.out,b_C.out,a_5.out,a_4.out,b_y.out,c_t.out,a_3.out,b_D.out,(by repeat (first|(with_reducible first|exact HB.out|apply a_e|apply a_c|apply a_f|refine a_d ?_ b_6.out|refine a_d ?_ c_s.out|refine a_d ?_ c_t.out)|exact HB.out))⟩)
  skip
  refine c_7 ?hg (N:=8) ?hd (cs:=#[.int .i64 0,.int .i64 0]) (t:=56) ?hr ?_;(case hd => rfl);(case hg => rfl);(case hr => first|(go_simp;done)|(go_simp;rfl))
  intro b_h hg w11 hbox hb
  have b_A:=a_b.mk (hbox)
  have b_y:=a_b.mk ((by rw [hg];exact (a_g (by repeat (first|(with_reducible first|exact HB.out|apply a_e|apply a_c|apply a_f|refine a_d ?_ b_6.out)|exact HB.out))) : w.heap.size ≤ b_h))
  have c_t:=a_b.mk ((by rw [hg];exact (a_g (by repeat (first|(with_reducible first|exact HB.out|apply a_e|apply a_c|apply a_f|refine a_d ?_ b_6.out)|exact HB.out))) : w.heap.size ≤ b_h))
  have a_3:=a_b.mk ((by rw [hg];exact Nat.ne_of_lt (a_1 (bup_ b_I.out)) : b_V ≠ b_h))
  have b_D:=a_b.mk ((by rw [hg];exact Nat.ne_of_gt (a_1 (bup_ b_I.out)) : b_h ≠ b_V))
  replace b_I:=a_b.mk (a_k (bup_ b_I.out) hb)
  replace HB:=a_b.mk (a_h (by repeat (first|(with_reducible first|exact HB.out|apply a_e|apply a_c|apply a_f|refine a_d ?_ b_6.out)|exact HB.out)) hb)
  clear hb hbox hg
  refine hK.out _ _ ⟨(a_l b_I.out 0).trans rfl,((HB.out.cell (World.block_lt_of_cell? w _ a_6)).trans a_6),((HB.out.cell (World.block_lt_of_cell? w _ a_7)).trans a_7),((HB.out.cell (World.block_lt_of_cell? w _ a_8)).trans a_8),((HB.out.cell (World.block_lt_of_cell? w _ a_9)).trans a_9)⟩ (fun hHeld => ?_)
  clear hK K
  refine c_4 (a':=?_) ?_ ?_
  rotate_left
  ·show Act.put _ (some 8) _ = _
   simp only [Act.put,sa_,sb_,sc_,b_Q,b_P]
   rfl
  refine one_ (i:=10) (N:=some 7) Z0_ rfl rfl (c_q HT_.out (by kernel_rfl)) (by decide) (fun K hK => ?_)
  refine c_7 ?hg (N:=7) ?hd (cs:=#[.int .i64 0,.int .i64 0]) (t:=56) ?hr ?_;(case hd => rfl);(case hg => rfl);(case hr => first|(go_simp;done)|(go_simp;rfl))
  intro b_g hg w12 hbox hb
  have b_z:=a_b.mk (hbox)
  have b_x:=a_b.mk ((by rw [hg];exact (a_g (by repeat (first|(with_reducible first|exact HB.out|apply a_e|apply a_c|apply a_f|refine a_d ?_ b_6.out|refine a_d ?_ c_t.out)|exact HB.out))) : w.heap.size ≤ b_g))
  have c_s:=a_b.mk ((by rw [hg];exact (a_g (by repeat (first|(with_reducible first|exact HB.out|apply a_e|apply a_c|apply a_f|refine a_d ?_ b_6.out|refine a_d ?_ c_t.out)|exact HB.out))) : w.heap.size ≤ b_g))
  have a_2:=a_b.mk ((by rw [hg];exact Nat.ne_of_lt (a_1 (bup_ b_I.out)) : b_V ≠ b_g))
  have b_C:=a_b.mk ((by rw [hg];exact Nat.ne_of_gt (a_1 (bup_ b_I.out)) : b_g ≠ b_V))
  have a_5:=a_b.mk ((by rw [hg];exact Nat.ne_of_lt (a_1 (bup_ b_A.out)) : b_h ≠ b_g))
  have a_4:=a_b.mk ((by rw [hg];exact Nat.ne_of_gt (a_1 (bup_ b_A.out)) : b_g ≠ b_h))
  replace b_I:=a_b.mk (a_k (bup_ b_I.out) hb)
  replace b_A:=a_b.mk (a_k (bup_ b_A.out) hb)
  replace HB:=a_b.mk (a_h (by repeat (first|(with_reducible first|exact HB.out|apply a_e|apply a_c|apply a_f|refine a_d ?_ b_6.out|refine a_d ?_ c_t.out)|exact HB.out)) hb)
  clear hb hbox hg
  refine hK.out _ _ ⟨(a_l b_I.out 0).trans rfl,((HB.out.cell (World.block_lt_of_cell? w _ a_6)).trans a_6),((HB.out.cell (World.block_lt_of_cell? w _ a_7)).trans a_7),((HB.out.cell (World.block_lt_of_cell? w _ a_8)).trans a_8),((HB.out.cell (World.block_lt_of_cell? w _ a_9)).trans a_9)⟩ (fun hHeld => ?_)
  clear hK K
  refine c_4 (a':=?_) ?_ ?_
  rotate_left
  ·show Act.put _ (some 7) _ = _
   simp only [Act.put,sa_,sb_,sc_,b_Q,b_P]
   rfl
  exact c_4 (by simp only [d_E,Act.put,sa_,sb_,sc_]) (hCont (b_g,b_h) _ ⟨hHeld,(bup_ b_I.out),(bup_ b_z.out),(bup_ b_A.out),b_x.out,c_s.out,a_2.out,b_C.out,a_5.out,a_4.out,b_y.out,c_t.out,a_3.out,b_D.out,(by repeat (first|(with_reducible first|exact HB.out|apply a_e|apply a_c|apply a_f|refine a_d ?_ b_6.out|refine a_d ?_ c_t.out|refine a_d ?_ c_s.out)|exact HB.out))⟩)
 rintro ⟨b_g,b_h⟩ w13 ⟨hS_,h0_,h1_,h2_,h3_,h4_,h5_,h6_,h7_,h8_,h9_,h10_,h11_,h12_,h13_⟩
 have b_z : a_b (w13.heap[b_g]? = some (.cells #[.int .i64 0,.int .i64 0] 56 (0,0))):=⟨h1_⟩
 have b_A : a_b (w13.heap[b_h]? = some (.cells #[.int .i64 0,.int .i64 0] 56 (0,0))):=⟨h2_⟩
 have b_x : a_b (w.heap.size ≤ b_g):=⟨h3_⟩
 have c_s : a_b (w.heap.size ≤ b_g):=⟨h4_⟩
 have a_2 : a_b (b_V ≠ b_g):=⟨h5_⟩
 have b_C : a_b (b_g ≠ b_V):=⟨h6_⟩
 have a_5 : a_b (b_h ≠ b_g):=⟨h7_⟩
 have a_4 : a_b (b_g ≠ b_h):=⟨h8_⟩
 have b_y : a_b (w.heap.size ≤ b_h):=⟨h9_⟩
 have c_t : a_b (w.heap.size ≤ b_h):=⟨h10_⟩
 have a_3 : a_b (b_V ≠ b_h):=⟨h11_⟩
 have b_D : a_b (b_h ≠ b_V):=⟨h12_⟩
 replace b_I : a_b (w13.heap[b_V]? = some (.cells #[.slice (some ad106) l0_0.length c0_0] 24 (0,0))):=⟨h0_⟩
 replace HB : a_b (Below w.heap.size w w13):=⟨h13_⟩
 clear h0_ h1_ h2_ h3_ h4_ h5_ h6_ h7_ h8_ h9_ h10_ h11_ h12_ h13_
 have hHeld : w13.cell? ⟨b_V,0,none⟩ = some (.slice (some ad106) l0_0.length c0_0) ∧ w13.cell? (ad106.add ((a1).toNat * 2)) = some (.int .i64 ((a_u l0_0 a1).f0)) ∧ w13.cell? ⟨(ad106.add ((a1).toNat * 2)).block,(ad106.add ((a1).toNat * 2)).off + 1,none⟩ = some (.int .i64 ((a_u l0_0 a1).f1)) ∧ w13.cell? (ad106.add ((a2).toNat * 2)) = some (.int .i64 ((a_u l0_0 a2).f0)) ∧ w13.cell? ⟨(ad106.add ((a2).toNat * 2)).block,(ad106.add ((a2).toNat * 2)).off + 1,none⟩ = some (.int .i64 ((a_u l0_0 a2).f1)):=hS_
 refine c_4 (a':=?_) ?_ ?_
 rotate_left
 ·simp only [d_E,Act.put,sa_,sb_,sc_]
  rfl
 refine one_ (i:=12) (N:=none) #[T_,T_,T_,T_,T_,T_,T_,T_,T_,T_,T_,T_,T_,F_] rfl rfl (c_q HT_.out (by kernel_rfl)) (by decide) (fun K hK => ?_)
 have hs14 : w13.cell? ⟨b_g,0,none⟩ = some (.int .i64 0):=(a_l b_z.out 0).trans rfl
 have hfs14:=a_i b_z.out 0
 have hns14_0:=a_2.out
 have hns14_2:=a_5.out
 have hms14_0:=b_C.out
 have hms14_2:=a_4.out
 have hs15 : w13.cell? ⟨b_g,1,none⟩ = some (.int .i64 0):=(a_l b_z.out 1).trans rfl
 have hfs15:=a_i b_z.out 1
 have hns15_0:=a_2.out
 have hns15_2:=a_5.out
 have hms15_0:=b_C.out
 have hms15_2:=a_4.out
 refine g_8 (w1:=?_) (by rfl) rfl ?_ ?_
 rotate_left
 ·go_simp
  rfl
 refine hK.out _ _ ⟨((cell_far (p:=⟨b_g,_,none⟩) a_2.out _).trans (((cell_far (p:=⟨b_g,_,none⟩) a_2.out _).trans (hHeld.1)))),((cell_far (p:=⟨b_g,_,none⟩) (by first|exact Nat.ne_of_lt (Nat.lt_of_lt_of_le (by have:=World.block_lt_of_cell? _ _ a_6;first|rwa [add_block] at this|exact this) b_x.out)|(rw [add_block];exact Nat.ne_of_lt (Nat.lt_of_lt_of_le (by have:=World.block_lt_of_cell? _ _ a_6;first|rwa [add_block] at this|exact this) b_x.out))|(show (Addr.add _ _).block ≠ _;rw [add_block];exact Nat.ne_of_lt (Nat.lt_of_lt_of_le (by have:=World.block_lt_of_cell? _ _ a_6;first|rwa [add_block] at this|exact this) b_x.out))|(dsimp only;exact Nat.ne_of_lt (Nat.lt_of_lt_of_le (by have:=World.block_lt_of_cell? _ _ a_6;first|rwa [add_block] at this|exact this) b_x.out))) _).trans (((cell_far (p:=⟨b_g,_,none⟩) (by first|exact Nat.ne_of_lt (Nat.lt_of_lt_of_le (by have:=World.block_lt_of_cell? _ _ a_6;first|rwa [add_block] at this|exact this) b_x.out)|(rw [add_block];exact Nat.ne_of_lt (Nat.lt_of_lt_of_le (by have:=World.block_lt_of_cell? _ _ a_6;first|rwa [add_block] at this|exact this) b_x.out))|(show (Addr.add _ _).block ≠ _;rw [add_block];exact Nat.ne_of_lt (Nat.lt_of_lt_of_le (by have:=World.block_lt_of_cell? _ _ a_6;first|rwa [add_block] at this|exact this) b_x.out))|(dsimp only;exact Nat.ne_of_lt (Nat.lt_of_lt_of_le (by have:=World.block_lt_of_cell? _ _ a_6;first|rwa [add_block] at this|exact this) b_x.out))) _).trans (hHeld.2.1)))),((cell_far (p:=⟨b_g,_,none⟩) (by first|exact Nat.ne_of_lt (Nat.lt_of_lt_of_le (by have:=World.block_lt_of_cell? _ _ a_7;first|rwa [add_block] at this|exact this) b_x.out)|(rw [add_block];exact Nat.ne_of_lt (Nat.lt_of_lt_of_le (by have:=World.block_lt_of_cell? _ _ a_7;first|rwa [add_block] at this|exact this) b_x.out))|(show (Addr.add _ _).block ≠ _;rw [add_block];exact Nat.ne_of_lt (Nat.lt_of_lt_of_le (by have:=World.block_lt_of_cell? _ _ a_7;first|rwa [add_block] at this|exact this) b_x.out))|(dsimp only;exact Nat.ne_of_lt (Nat.lt_of_lt_of_le (by have:=World.block_lt_of_cell? _ _ a_7;first|rwa [add_block] at this|exact this) b_x.out))) _).trans (((cell_far (p:=⟨b_g,_,none⟩) (by first|exact Nat.ne_of_lt (Nat.lt_of_lt_of_le (by have:=World.block_lt_of_cell? _ _ a_7;first|rwa [add_block] at this|exact this) b_x.out)|(rw [add_block];exact Nat.ne_of_lt (Nat.lt_of_lt_of_le (by have:=World.block_lt_of_cell? _ _ a_7;first|rwa [add_block] at this|exact this) b_x.out))|(show (Addr.add _ _).block ≠ _;rw [add_block];exact Nat.ne_of_lt (Nat.lt_of_lt_of_le (by have:=World.block_lt_of_cell? _ _ a_7;first|rwa [add_block] at this|exact this) b_x.out))|(dsimp only;exact Nat.ne_of_lt (Nat.lt_of_lt_of_le (by have:=World.block_lt_of_cell? _ _ a_7;first|rwa [add_block] at this|exact this) b_x.out))) _).trans (hHeld.2.2.1)))),((cell_far (p:=⟨b_g,_,none⟩) (by first|exact Nat.ne_of_lt (Nat.lt_of_lt_of_le (by have:=World.block_lt_of_cell? _ _ a_8;first|rwa [add_block] at this|exact this) b_x.out)|(rw [add_block];exact Nat.ne_of_lt (Nat.lt_of_lt_of_le (by have:=World.block_lt_of_cell? _ _ a_8;first|rwa [add_block] at this|exact this) b_x.out))|(show (Addr.add _ _).block ≠ _;rw [add_block];exact Nat.ne_of_lt (Nat.lt_of_lt_of_le (by have:=World.block_lt_of_cell? _ _ a_8;first|rwa [add_block] at this|exact this) b_x.out))|(dsimp only;exact Nat.ne_of_lt (Nat.lt_of_lt_of_le (by have:=World.block_lt_of_cell? _ _ a_8;first|rwa [add_block] at this|exact this) b_x.out))) _).trans (((cell_far (p:=⟨b_g,_,none⟩) (by first|exact Nat.ne_of_lt (Nat.lt_of_lt_of_le (by have:=World.block_lt_of_cell? _ _ a_8;first|rwa [add_block] at this|exact this) b_x.out)|(rw [add_block];exact Nat.ne_of_lt (Nat.lt_of_lt_of_le (by have:=World.block_lt_of_cell? _ _ a_8;first|rwa [add_block] at this|exact this) b_x.out))|(show (Addr.add _ _).block ≠ _;rw [add_block];exact Nat.ne_of_lt (Nat.lt_of_lt_of_le (by have:=World.block_lt_of_cell? _ _ a_8;first|rwa [add_block] at this|exact this) b_x.out))|(dsimp only;exact Nat.ne_of_lt (Nat.lt_of_lt_of_le (by have:=World.block_lt_of_cell? _ _ a_8;first|rwa [add_block] at this|exact this) b_x.out))) _).trans (hHeld.2.2.2.1)))),((cell_far (p:=⟨b_g,_,none⟩) (by first|exact Nat.ne_of_lt (Nat.lt_of_lt_of_le (by have:=World.block_lt_of_cell? _ _ a_9;first|rwa [add_block] at this|exact this) b_x.out)|(rw [add_block];exact Nat.ne_of_lt (Nat.lt_of_lt_of_le (by have:=World.block_lt_of_cell? _ _ a_9;first|rwa [add_block] at this|exact this) b_x.out))|(show (Addr.add _ _).block ≠ _;rw [add_block];exact Nat.ne_of_lt (Nat.lt_of_lt_of_le (by have:=World.block_lt_of_cell? _ _ a_9;first|rwa [add_block] at this|exact this) b_x.out))|(dsimp only;exact Nat.ne_of_lt (Nat.lt_of_lt_of_le (by have:=World.block_lt_of_cell? _ _ a_9;first|rwa [add_block] at this|exact this) b_x.out))) _).trans (((cell_far (p:=⟨b_g,_,none⟩) (by first|exact Nat.ne_of_lt (Nat.lt_of_lt_of_le (by have:=World.block_lt_of_cell? _ _ a_9;first|rwa [add_block] at this|exact this) b_x.out)|(rw [add_block];exact Nat.ne_of_lt (Nat.lt_of_lt_of_le (by have:=World.block_lt_of_cell? _ _ a_9;first|rwa [add_block] at this|exact this) b_x.out))|(show (Addr.add _ _).block ≠ _;rw [add_block];exact Nat.ne_of_lt (Nat.lt_of_lt_of_le (by have:=World.block_lt_of_cell? _ _ a_9;first|rwa [add_block] at this|exact this) b_x.out))|(dsimp only;exact Nat.ne_of_lt (Nat.lt_of_lt_of_le (by have:=World.block_lt_of_cell? _ _ a_9;first|rwa [add_block] at this|exact this) b_x.out))) _).trans (hHeld.2.2.2.2))))⟩ (fun hHeld => ?_)
 clear hK K
 refine one_ (i:=13) (N:=none) #[T_,T_,T_,T_,T_,T_,T_,T_,T_,T_,T_,T_,T_,T_] rfl rfl (c_q HT_.out (by kernel_rfl)) (by decide) (fun K hK => ?_)
 have hs16 : w13.cell? ⟨b_h,0,none⟩ = some (.int .i64 0):=(a_l b_A.out 0).trans rfl
 have hfs16:=a_i b_A.out 0
 have hns16_0:=a_3.out
 have hns16_1:=a_4.out
 have hms16_0:=b_D.out
 have hms16_1:=a_5.out
 have hs17 : w13.cell? ⟨b_h,1,none⟩ = some (.int .i64 0):=(a_l b_A.out 1).trans rfl
 have hfs17:=a_i b_A.out 1
 have hns17_0:=a_3.out
 have hns17_1:=a_4.out
 have hms17_0:=b_D.out
 have hms17_1:=a_5.out
 refine g_8 (w1:=?_) (by rfl) rfl ?_ ?_
 rotate_left
 ·go_simp
  rfl
 refine hK.out _ _ ⟨((cell_far (p:=⟨b_h,_,none⟩) a_3.out _).trans (((cell_far (p:=⟨b_h,_,none⟩) a_3.out _).trans (hHeld.1)))),((cell_far (p:=⟨b_h,_,none⟩) (by first|exact Nat.ne_of_lt (Nat.lt_of_lt_of_le (by have:=World.block_lt_of_cell? _ _ a_6;first|rwa [add_block] at this|exact this) b_y.out)|(rw [add_block];exact Nat.ne_of_lt (Nat.lt_of_lt_of_le (by have:=World.block_lt_of_cell? _ _ a_6;first|rwa [add_block] at this|exact this) b_y.out))|(show (Addr.add _ _).block ≠ _;rw [add_block];exact Nat.ne_of_lt (Nat.lt_of_lt_of_le (by have:=World.block_lt_of_cell? _ _ a_6;first|rwa [add_block] at this|exact this) b_y.out))|(dsimp only;exact Nat.ne_of_lt (Nat.lt_of_lt_of_le (by have:=World.block_lt_of_cell? _ _ a_6;first|rwa [add_block] at this|exact this) b_y.out))) _).trans (((cell_far (p:=⟨b_h,_,none⟩) (by first|exact Nat.ne_of_lt (Nat.lt_of_lt_of_le (by have:=World.block_lt_of_cell? _ _ a_6;first|rwa [add_block] at this|exact this) b_y.out)|(rw [add_block];exact Nat.ne_of_lt (Nat.lt_of_lt_of_le (by have:=World.block_lt_of_cell? _ _ a_6;first|rwa [add_block] at this|exact this) b_y.out))|(show (Addr.add _ _).block ≠ _;rw [add_block];exact Nat.ne_of_lt (Nat.lt_of_lt_of_le (by have:=World.block_lt_of_cell? _ _ a_6;first|rwa [add_block] at this|exact this) b_y.out))|(dsimp only;exact Nat.ne_of_lt (Nat.lt_of_lt_of_le (by have:=World.block_lt_of_cell? _ _ a_6;first|rwa [add_block] at this|exact this) b_y.out))) _).trans (hHeld.2.1)))),((cell_far (p:=⟨b_h,_,none⟩) (by first|exact Nat.ne_of_lt (Nat.lt_of_lt_of_le (by have:=World.block_lt_of_cell? _ _ a_7;first|rwa [add_block] at this|exact this) b_y.out)|(rw [add_block];exact Nat.ne_of_lt (Nat.lt_of_lt_of_le (by have:=World.block_lt_of_cell? _ _ a_7;first|rwa [add_block] at this|exact this) b_y.out))|(show (Addr.add _ _).block ≠ _;rw [add_block];exact Nat.ne_of_lt (Nat.lt_of_lt_of_le (by have:=World.block_lt_of_cell? _ _ a_7;first|rwa [add_block] at this|exact this) b_y.out))|(dsimp only;exact Nat.ne_of_lt (Nat.lt_of_lt_of_le (by have:=World.block_lt_of_cell? _ _ a_7;first|rwa [add_block] at this|exact this) b_y.out))) _).trans (((cell_far (p:=⟨b_h,_,none⟩) (by first|exact Nat.ne_of_lt (Nat.lt_of_lt_of_le (by have:=World.block_lt_of_cell? _ _ a_7;first|rwa [add_block] at this|exact this) b_y.out)|(rw [add_block];exact Nat.ne_of_lt (Nat.lt_of_lt_of_le (by have:=World.block_lt_of_cell? _ _ a_7;first|rwa [add_block] at this|exact this) b_y.out))|(show (Addr.add _ _).block ≠ _;rw [add_block];exact Nat.ne_of_lt (Nat.lt_of_lt_of_le (by have:=World.block_lt_of_cell? _ _ a_7;first|rwa [add_block] at this|exact this) b_y.out))|(dsimp only;exact Nat.ne_of_lt (Nat.lt_of_lt_of_le (by have:=World.block_lt_of_cell? _ _ a_7;first|rwa [add_block] at this|exact this) b_y.out))) _).trans (hHeld.2.2.1)))),((cell_far (p:=⟨b_h,_,none⟩) (by first|exact Nat.ne_of_lt (Nat.lt_of_lt_of_le (by have:=World.block_lt_of_cell? _ _ a_8;first|rwa [add_block] at this|exact this) b_y.out)|(rw [add_block];exact Nat.ne_of_lt (Nat.lt_of_lt_of_le (by have:=World.block_lt_of_cell? _ _ a_8;first|rwa [add_block] at this|exact this) b_y.out))|(show (Addr.add _ _).block ≠ _;rw [add_block];exact Nat.ne_of_lt (Nat.lt_of_lt_of_le (by have:=World.block_lt_of_cell? _ _ a_8;first|rwa [add_block] at this|exact this) b_y.out))|(dsimp only;exact Nat.ne_of_lt (Nat.lt_of_lt_of_le (by have:=World.block_lt_of_cell? _ _ a_8;first|rwa [add_block] at this|exact this) b_y.out))) _).trans (((cell_far (p:=⟨b_h,_,none⟩) (by first|exact Nat.ne_of_lt (Nat.lt_of_lt_of_le (by have:=World.block_lt_of_cell? _ _ a_8;first|rwa [add_block] at this|exact this) b_y.out)|(rw [add_block];exact Nat.ne_of_lt (Nat.lt_of_lt_of_le (by have:=World.block_lt_of_cell? _ _ a_8;first|rwa [add_block] at this|exact this) b_y.out))|(show (Addr.add _ _).block ≠ _;rw [add_block];exact Nat.ne_of_lt (Nat.lt_of_lt_of_le (by have:=World.block_lt_of_cell? _ _ a_8;first|rwa [add_block] at this|exact this) b_y.out))|(dsimp only;exact Nat.ne_of_lt (Nat.lt_of_lt_of_le (by have:=World.block_lt_of_cell? _ _ a_8;first|rwa [add_block] at this|exact this) b_y.out))) _).trans (hHeld.2.2.2.1)))),((cell_far (p:=⟨b_h,_,none⟩) (by first|exact Nat.ne_of_lt (Nat.lt_of_lt_of_le (by have:=World.block_lt_of_cell? _ _ a_9;first|rwa [add_block] at this|exact this) b_y.out)|(rw [add_block];exact Nat.ne_of_lt (Nat.lt_of_lt_of_le (by have:=World.block_lt_of_cell? _ _ a_9;first|rwa [add_block] at this|exact this) b_y.out))|(show (Addr.add _ _).block ≠ _;rw [add_block];exact Nat.ne_of_lt (Nat.lt_of_lt_of_le (by have:=World.block_lt_of_cell? _ _ a_9;first|rwa [add_block] at this|exact this) b_y.out))|(dsimp only;exact Nat.ne_of_lt (Nat.lt_of_lt_of_le (by have:=World.block_lt_of_cell? _ _ a_9;first|rwa [add_block] at this|exact this) b_y.out))) _).trans (((cell_far (p:=⟨b_h,_,none⟩) (by first|exact Nat.ne_of_lt (Nat.lt_of_lt_of_le (by have:=World.block_lt_of_cell? _ _ a_9;first|rwa [add_block] at this|exact this) b_y.out)|(rw [add_block];exact Nat.ne_of_lt (Nat.lt_of_lt_of_le (by have:=World.block_lt_of_cell? _ _ a_9;first|rwa [add_block] at this|exact this) b_y.out))|(show (Addr.add _ _).block ≠ _;rw [add_block];exact Nat.ne_of_lt (Nat.lt_of_lt_of_le (by have:=World.block_lt_of_cell? _ _ a_9;first|rwa [add_block] at this|exact this) b_y.out))|(dsimp only;exact Nat.ne_of_lt (Nat.lt_of_lt_of_le (by have:=World.block_lt_of_cell? _ _ a_9;first|rwa [add_block] at this|exact this) b_y.out))) _).trans (hHeld.2.2.2.2))))⟩ (fun hHeld => ?_)
 clear hK K
 refine g_a (d_S HT_.out (by kernel_rfl)) ?_
 have j_K:=b_C.out
 have k_a:=a_2.out
 have j_L:=a_4.out
 have k_b:=a_5.out
 have f_y : w13.cell? ⟨b_g,0,none⟩ = some (.int .i64 0):=(a_l b_z.out 0).trans rfl
 have g_P : w13.cell? ⟨b_g,1,none⟩ = some (.int .i64 0):=(a_l b_z.out 1).trans rfl
 have f_F:=a_i b_z.out 0
 have g_W:=a_i b_z.out 1
 have j_h:=b_D.out
 have j_j:=a_3.out
 have d_d : w13.cell? ⟨b_h,0,none⟩ = some (.int .i64 0):=(a_l b_A.out 0).trans rfl
 have g_Q : w13.cell? ⟨b_h,1,none⟩ = some (.int .i64 0):=(a_l b_A.out 1).trans rfl
 have d_f:=a_i b_A.out 0
 have g_X:=a_i b_A.out 1
 go_upto_if 24 with (fail)
 go_cut [9] (fun v9 wc => ∃ (kq : Nat) (x9_7 : Int),v9 = .int .i64 x9_7 ∧ a_b (a_w.j0 kq a1 a2 x9_7 ((a_u l0_0 a1).f0) ((a_u l0_0 a1).f1) ((a_u l0_0 a2).f0) ((a_u l0_0 a2).f1) = some r) ∧ a_b (kq ≤ k) ∧ a_b (wc.heap[b_V]? = some (.cells #[(.slice (some ad106) l0_0.length c0_0)] 24 (0,0))) ∧ a_b (wc.heap[b_g]? = some (.cells #[.int .i64 ((a_u l0_0 a1).f0),.int .i64 ((a_u l0_0 a1).f1)] 56 (0,0))) ∧ a_b (wc.heap[b_h]? = some (.cells #[.int .i64 ((a_u l0_0 a2).f0),.int .i64 ((a_u l0_0 a2).f1)] 56 (0,0))) ∧ a_b (Below w.heap.size w wc))
 case first =>
  have H:=HC8.out
  clear HC8
  by_cases c23 : ((a_u l0_0 a1).f0) = ((a_u l0_0 a2).f0)
  ·rw [if_pos c23] at H
   have c23b0 : (((a_u l0_0 a1).f0) == ((a_u l0_0 a2).f0)) = true:=beq_iff_eq.mpr c23
   have c23b1 : (((a_u l0_0 a1).f0) != ((a_u l0_0 a2).f0)) = false:=bne_eq_false_iff_eq.mpr c23
   clear c23
   (first|rw [c23b0]|(simp only [b_Q,b_P];rw [c23b0])|skip)
   have H':=a_b.mk H
   clear H
   go_wp2
   go_meet
   case rel => exact ⟨_,(2),(by first|rfl|(simp;done)|(simp [*];done)),H',⟨by first|omega|exact Nat.le_refl _⟩,⟨by (with_reducible repeat (first|refine a_m ?_ _|refine a_o ?_|refine a_j ?_ _));refine b_t ?_ a_3.out _;(with_reducible repeat (first|refine a_m ?_ _|refine a_o ?_|refine a_j ?_ _));refine b_t ?_ a_3.out _;(with_reducible repeat (first|refine a_m ?_ _|refine a_o ?_|refine a_j ?_ _));refine b_t ?_ a_2.out _;(with_reducible repeat (first|refine a_m ?_ _|refine a_o ?_|refine a_j ?_ _));refine b_t ?_ a_2.out _;(with_reducible repeat (first|refine a_m ?_ _|refine a_o ?_|refine a_j ?_ _));exact b_I.out⟩,⟨by (with_reducible repeat (first|refine a_m ?_ _|refine a_o ?_|refine a_j ?_ _));refine b_t ?_ a_4.out _;(with_reducible repeat (first|refine a_m ?_ _|refine a_o ?_|refine a_j ?_ _));refine b_t ?_ a_4.out _;(with_reducible repeat (first|refine a_m ?_ _|refine a_o ?_|refine a_j ?_ _));refine b_d (cs:=#[.int .i64 ((a_u l0_0 a1).f0),.int .i64 0]) ?_ 1 _ rfl;(with_reducible repeat (first|refine a_m ?_ _|refine a_o ?_|refine a_j ?_ _));refine b_d (cs:=#[.int .i64 0,.int .i64 0]) ?_ 0 _ rfl;(with_reducible repeat (first|refine a_m ?_ _|refine a_o ?_|refine a_j ?_ _));exact b_z.out⟩,⟨by (with_reducible repeat (first|refine a_m ?_ _|refine a_o ?_|refine a_j ?_ _));refine b_d (cs:=#[.int .i64 ((a_u l0_0 a2).f0),.int .i64 0]) ?_ 1 _ rfl;(with_reducible repeat (first|refine a_m ?_ _|refine a_o ?_|refine a_j ?_ _));refine b_d (cs:=#[.int .i64 0,.int .i64 0]) ?_ 0 _ rfl;(with_reducible repeat (first|refine a_m ?_ _|refine a_o ?_|refine a_j ?_ _));refine b_t ?_ a_5.out _;(with_reducible repeat (first|refine a_m ?_ _|refine a_o ?_|refine a_j ?_ _));refine b_t ?_ a_5.out _;(with_reducible repeat (first|refine a_m ?_ _|refine a_o ?_|refine a_j ?_ _));exact b_A.out⟩,⟨by repeat (first|(with_reducible first|exact HB.out|apply a_e|apply a_c|apply a_f|refine a_d ?_ b_6.out|refine a_d ?_ c_s.out|refine a_d ?_ c_t.out)|exact HB.out)⟩⟩
  rw [if_neg c23] at H
  have c23b0 : (((a_u l0_0 a1).f0) == ((a_u l0_0 a2).f0)) = false:=beq_eq_false_iff_ne.mpr c23
  have c23b1 : (((a_u l0_0 a1).f0) != ((a_u l0_0 a2).f0)) = true:=bne_iff_ne.mpr c23
  (first|rw [c23b0]|(simp only [b_Q,b_P];rw [c23b0])|skip)
  have H':=a_b.mk H
  clear H
  go_wp2
  go_meet
  case rel => exact ⟨_,(3),(by first|rfl|(simp;done)|(simp [*];done)),H',⟨by first|omega|exact Nat.le_refl _⟩,⟨by (with_reducible repeat (first|refine a_m ?_ _|refine a_o ?_|refine a_j ?_ _));refine b_t ?_ a_3.out _;(with_reducible repeat (first|refine a_m ?_ _|refine a_o ?_|refine a_j ?_ _));refine b_t ?_ a_3.out _;(with_reducible repeat (first|refine a_m ?_ _|refine a_o ?_|refine a_j ?_ _));refine b_t ?_ a_2.out _;(with_reducible repeat (first|refine a_m ?_ _|refine a_o ?_|refine a_j ?_ _));refine b_t ?_ a_2.out _;(with_reducible repeat (first|refine a_m ?_ _|refine a_o ?_|refine a_j ?_ _));exact b_I.out⟩,⟨by (with_reducible repeat (first|refine a_m ?_ _|refine a_o ?_|refine a_j ?_ _));refine b_t ?_ a_4.out _;(with_reducible repeat (first|refine a_m ?_ _|refine a_o ?_|refine a_j ?_ _));refine b_t ?_ a_4.out _;(with_reducible repeat (first|refine a_m ?_ _|refine a_o ?_|refine a_j ?_ _));refine b_d (cs:=#[.int .i64 ((a_u l0_0 a1).f0),.int .i64 0]) ?_ 1 _ rfl;(with_reducible repeat (first|refine a_m ?_ _|refine a_o ?_|refine a_j ?_ _));refine b_d (cs:=#[.int .i64 0,.int .i64 0]) ?_ 0 _ rfl;(with_reducible repeat (first|refine a_m ?_ _|refine a_o ?_|refine a_j ?_ _));exact b_z.out⟩,⟨by (with_reducible repeat (first|refine a_m ?_ _|refine a_o ?_|refine a_j ?_ _));refine b_d (cs:=#[.int .i64 ((a_u l0_0 a2).f0),.int .i64 0]) ?_ 1 _ rfl;(with_reducible repeat (first|refine a_m ?_ _|refine a_o ?_|refine a_j ?_ _));refine b_d (cs:=#[.int .i64 0,.int .i64 0]) ?_ 0 _ rfl;(with_reducible repeat (first|refine a_m ?_ _|refine a_o ?_|refine a_j ?_ _));refine b_t ?_ a_5.out _;(with_reducible repeat (first|refine a_m ?_ _|refine a_o ?_|refine a_j ?_ _));refine b_t ?_ a_5.out _;(with_reducible repeat (first|refine a_m ?_ _|refine a_o ?_|refine a_j ?_ _));exact b_A.out⟩,⟨by repeat (first|(with_reducible first|exact HB.out|apply a_e|apply a_c|apply a_f|refine a_d ?_ b_6.out|refine a_d ?_ c_s.out|refine a_d ?_ c_t.out)|exact HB.out)⟩⟩
 case rest =>
  clear HC8
  try clear c1
  try clear p1
  try clear q1
  try clear hx1
  try clear c2
  try clear p2
  try clear c4
  try clear c4b0
  try clear c5
  try clear c5b0
  try clear c6
  try clear c6b0
  try clear c7
  try clear c7b0
  try clear p10
  try clear q10
  try clear hx10
  try clear c18
  try clear c19
  try clear c21
  try clear c23
  try clear c23b0
  try clear c23b1
  try clear f_y
  try clear g_P
  try clear d_d
  try clear g_Q
  try clear f_F
  try clear g_W
  try clear d_f
  try clear g_X
  try clear c_P
  try clear c_Q
  try clear c_R
  try clear c_S
  try clear p106
  try clear p107
  try clear q106
  try clear q107
  obtain ⟨kq,x9_7,rfl,HA,HJ7,b_I,b_z,b_A,HB⟩:=hcut
  cases kq with
  | zero => exact absurd HA.out (by simp [a_w.j0])
  | succ kj7 =>
   have H:=HA.out
   clear HA
   simp only [a_w.j0] at H
   by_cases c24 : (((a_u l0_0 a1).f0) == ((a_u l0_0 a2).f0) && (((a_u l0_0 a1).f1) == ((a_u l0_0 a2).f1))) = true
   ·rw [if_pos c24] at H
    have c24b0 : (((a_u l0_0 a1).f0) == ((a_u l0_0 a2).f0) && (((a_u l0_0 a1).f1) == ((a_u l0_0 a2).f1))) = true:=c24
    (try (have c24b1 : decide (((a_u l0_0 a1).f0) = ((a_u l0_0 a2).f0) && (((a_u l0_0 a1).f1) == ((a_u l0_0 a2).f1))) = true:=by simpa using c24))
    (try (have c24b2 : (((a_u l0_0 a1).f0) == ((a_u l0_0 a2).f0) && (((a_u l0_0 a1).f1) == ((a_u l0_0 a2).f1))) = true:=by simpa using c24))
    clear c24
    by_cases c25 : a1 = a2
    ·rw [if_pos c25] at H
     have c25b0 : (a1 == a2) = true:=beq_iff_eq.mpr c25
     have c25b1 : (a1 != a2) = false:=bne_eq_false_iff_eq.mpr c25
     clear c25
     obtain rfl:=Option.some.inj H
     have j_O:=b_C.out
     have k_f:=a_2.out
     have j_P:=a_4.out
     have k_g:=a_5.out
     have f_z : wc.cell? ⟨b_g,0,none⟩ = some (.int .i64 ((a_u l0_0 a1).f0)):=(a_l b_z.out 0).trans rfl
     have i_n : wc.cell? ⟨b_g,1,none⟩ = some (.int .i64 ((a_u l0_0 a1).f1)):=(a_l b_z.out 1).trans rfl
     have f_G:=a_i b_z.out 0
     have i_U:=a_i b_z.out 1
     have j_Q:=b_D.out
     have k_h:=a_3.out
     have g_R : wc.cell? ⟨b_h,0,none⟩ = some (.int .i64 ((a_u l0_0 a2).f0)):=(a_l b_A.out 0).trans rfl
     have i_o : wc.cell? ⟨b_h,1,none⟩ = some (.int .i64 ((a_u l0_0 a2).f1)):=(a_l b_A.out 1).trans rfl
     have g_Y:=a_i b_A.out 0
     have i_V:=a_i b_A.out 1
     go_wp2
     go_ret
     exact ⟨by first|rfl|(simp [a_p,a_q] <;> rfl)|(simp [*, a_p,a_q] <;> rfl),by repeat (first|(with_reducible first|exact HB.out|apply a_e|apply a_c|apply a_f|refine a_d ?_ b_6.out|refine a_d ?_ c_s.out|refine a_d ?_ c_t.out)|exact HB.out)⟩
    rw [if_neg c25] at H
    have c25b0 : (a1 == a2) = false:=beq_eq_false_iff_ne.mpr c25
    have c25b1 : (a1 != a2) = true:=bne_iff_ne.mpr c25
    obtain rfl:=Option.some.inj H
    have j_R:=b_C.out
    have k_i:=a_2.out
    have j_S:=a_4.out
    have k_j:=a_5.out
    have f_A : wc.cell? ⟨b_g,0,none⟩ = some (.int .i64 ((a_u l0_0 a1).f0)):=(a_l b_z.out 0).trans rfl
    have i_p : wc.cell? ⟨b_g,1,none⟩ = some (.int .i64 ((a_u l0_0 a1).f1)):=(a_l b_z.out 1).trans rfl
    have f_H:=a_i b_z.out 0
    have i_W:=a_i b_z.out 1
    have j_T:=b_D.out
    have k_k:=a_3.out
    have g_S : wc.cell? ⟨b_h,0,none⟩ = some (.int .i64 ((a_u l0_0 a2).f0)):=(a_l b_A.out 0).trans rfl
    have i_q : wc.cell? ⟨b_h,1,none⟩ = some (.int .i64 ((a_u l0_0 a2).f1)):=(a_l b_A.out 1).trans rfl
    have g_Z:=a_i b_A.out 0
    have i_X:=a_i b_A.out 1
    go_wp2
    go_ret
    exact ⟨by first|rfl|(simp [a_p,a_q] <;> rfl)|(simp [*, a_p,a_q] <;> rfl),by repeat (first|(with_reducible first|exact HB.out|apply a_e|apply a_c|apply a_f|refine a_d ?_ b_6.out|refine a_d ?_ c_s.out|refine a_d ?_ c_t.out)|exact HB.out)⟩
   rw [if_neg c24] at H
   have c24b0 : (((a_u l0_0 a1).f0) == ((a_u l0_0 a2).f0) && (((a_u l0_0 a1).f1) == ((a_u l0_0 a2).f1))) = false:=by simpa using c24
   (try (have c24b1 : decide (((a_u l0_0 a1).f0) = ((a_u l0_0 a2).f0) && (((a_u l0_0 a1).f1) == ((a_u l0_0 a2).f1))) = false:=by simpa using c24))
   (try (have c24b2 : (((a_u l0_0 a1).f0) == ((a_u l0_0 a2).f0) && (((a_u l0_0 a1).f1) == ((a_u l0_0 a2).f1))) = false:=by simpa using c24))
   (try (have c24b3 : ¬ (((a_u l0_0 a1).f0) = ((a_u l0_0 a2).f0) && (((a_u l0_0 a1).f1) == ((a_u l0_0 a2).f1))):=by simpa using c24))
   clear c24
   by_cases c36 : a1 = a2
   ·rw [if_pos c36] at H
    have c36b0 : (a1 == a2) = true:=beq_iff_eq.mpr c36
    have c36b1 : (a1 != a2) = false:=bne_eq_false_iff_eq.mpr c36
    clear c36
    obtain rfl:=Option.some.inj H
    have j_U:=b_C.out
    have k_l:=a_2.out
    have j_V:=a_4.out
    have k_m:=a_5.out
    have i_r : wc.cell? ⟨b_g,0,none⟩ = some (.int .i64 ((a_u l0_0 a1).f0)):=(a_l b_z.out 0).trans rfl
    have i_s : wc.cell? ⟨b_g,1,none⟩ = some (.int .i64 ((a_u l0_0 a1).f1)):=(a_l b_z.out 1).trans rfl
    have i_Y:=a_i b_z.out 0
    have i_Z:=a_i b_z.out 1
    have j_i:=b_D.out
    have j_k:=a_3.out
    have d_V : wc.cell? ⟨b_h,0,none⟩ = some (.int .i64 ((a_u l0_0 a2).f0)):=(a_l b_A.out 0).trans rfl
    have i_t : wc.cell? ⟨b_h,1,none⟩ = some (.int .i64 ((a_u l0_0 a2).f1)):=(a_l b_A.out 1).trans rfl
    have d_W:=a_i b_A.out 0
    have i_0:=a_i b_A.out 1
    go_wp2
    go_ret
    exact ⟨by first|rfl|(simp [a_p,a_q] <;> rfl)|(simp [*, a_p,a_q] <;> rfl),by repeat (first|(with_reducible first|exact HB.out|apply a_e|apply a_c|apply a_f|refine a_d ?_ b_6.out|refine a_d ?_ c_s.out|refine a_d ?_ c_t.out)|exact HB.out)⟩
   rw [if_neg c36] at H
   have c36b0 : (a1 == a2) = false:=beq_eq_false_iff_ne.mpr c36
   have c36b1 : (a1 != a2) = true:=bne_iff_ne.mpr c36
   obtain rfl:=Option.some.inj H
   have j_W:=b_C.out
   have k_n:=a_2.out
   have j_X:=a_4.out
   have k_o:=a_5.out
   have i_v : wc.cell? ⟨b_g,0,none⟩ = some (.int .i64 ((a_u l0_0 a1).f0)):=(a_l b_z.out 0).trans rfl
   have i_w : wc.cell? ⟨b_g,1,none⟩ = some (.int .i64 ((a_u l0_0 a1).f1)):=(a_l b_z.out 1).trans rfl
   have i_2:=a_i b_z.out 0
   have i_3:=a_i b_z.out 1
   have j_Y:=b_D.out
   have k_p:=a_3.out
   have i_x : wc.cell? ⟨b_h,0,none⟩ = some (.int .i64 ((a_u l0_0 a2).f0)):=(a_l b_A.out 0).trans rfl
   have i_y : wc.cell? ⟨b_h,1,none⟩ = some (.int .i64 ((a_u l0_0 a2).f1)):=(a_l b_A.out 1).trans rfl
   have i_4:=a_i b_A.out 0
   have i_5:=a_i b_A.out 1
   go_wp2
   go_ret
   exact ⟨by first|rfl|(simp [a_p,a_q] <;> rfl)|(simp [*, a_p,a_q] <;> rfl),by repeat (first|(with_reducible first|exact HB.out|apply a_e|apply a_c|apply a_f|refine a_d ?_ b_6.out|refine a_d ?_ c_s.out|refine a_d ?_ c_t.out)|exact HB.out)⟩
end Go.Proofs.YtcpfcehfgenljaaDoor.Q
end
section
namespace Go.Proofs.YtcpfcehfgenljaaDoor.Q
open Go.RowKit Go.Proofs.YtcpfcehfgenljaaDoorW.PrintWords Go.Proofs.YtcpfcehfgenljaaDoorW.PrintLast Go.Proofs.YtcpfcehfgenljaaDoorW.PrintMore
set_option linter.unusedVariables false
set_option linter.unusedSimpArgs false
def a_C.f (k : Nat) (l0_0 : List (S56)) (a1 : Int) (a2 : Int) : Option (Int × Int):=(a_H.f l0_0).bind fun t111 => (if t111 = 0 then ((a_Q.f l0_0 a1).bind fun t112 => (if t112 = true then ((a_Q.f l0_0 a2).bind fun t113 => (if t113 = true then ((a_w.f k l0_0 a1 a2).bind fun t114 => (some (t114,0))) else (some (0,2)))) else (some (0,2)))) else (some (0,t111)))
theorem a_C.mono : ∀ a0 a1 a2 k,LeO (a_C.f k a0 a1 a2) (a_C.f (k + 1) a0 a1 a2):=by
 intro a0 a1 a2 k
 unfold a_C.f
 repeat' first
  | (with_reducible exact a_w.mono _ _ _ _)
  | (with_reducible exact LeO.refl _)
  | (with_reducible exact LeO.none _)
  | (with_reducible refine LeO.ite ?_ ?_)
  | (with_reducible refine LeO.bind ?_ (fun _ => ?_))
  | exact a_w.mono _ _ _ _
  | exact LeO.none _
  | refine LeO.ite ?_ ?_
  | refine LeO.bind ?_ (fun _ => ?_)
set_option maxHeartbeats 8000000 in
set_option maxRecDepth 100000 in
theorem a_C.calls (k : Nat) (A0_0 : Option Addr) (c0_0 : Nat) (l0_0 : List (S56)) (a1 : Int) (a2 : Int) (r1 : Int) (r2 : Int) (w : World) (hr0_0 : Kd.C k56 w A0_0 l0_0.length l0_0) (hc0_0 : l0_0.length ≤ c0_0) (h : a_C.f k l0_0 a1 a2 = some (r1,r2)) :
 Calls Tryd.prog 17 #[.agg #[.slice A0_0 l0_0.length c0_0],.int .i64 a1,.int .i64 a2] w fun e w' => e = .returned (.tuple #[.int .i64 r1,.int .i64 r2]) ∧ Below w.heap.size w w':=by
 have hu24:=Tryd.underlying24
 have b_M:=a_b.mk hr0_0
 have b_S:=a_b.mk hc0_0
 clear hr0_0 hc0_0
 have HB:=a_b.mk (Below.refl w.heap.size w)
 have H : ((a_H.f l0_0).bind fun t111 => (if t111 = 0 then ((a_Q.f l0_0 a1).bind fun t112 => (if t112 = true then ((a_Q.f l0_0 a2).bind fun t113 => (if t113 = true then ((a_w.f k l0_0 a1 a2).bind fun t114 => (some (t114,0))) else (some (0,2)))) else (some (0,2)))) else (some (0,t111)))) = some (r1,r2):=h
 clear h
 replace H:=Option.bind_eq_some_iff.mp H
 obtain ⟨t111,A40,H⟩:=H
 replace H : (if t111 = 0 then ((a_Q.f l0_0 a1).bind fun t112 => (if t112 = true then ((a_Q.f l0_0 a2).bind fun t113 => (if t113 = true then ((a_w.f k l0_0 a1 a2).bind fun t114 => (some (t114,0))) else (some (0,2)))) else (some (0,2)))) else (some (0,t111))) = some (r1,r2):=H
 have A4:=a_b.mk A40
 clear A40
 by_cases c5 : t111 = 0
 rotate_left
 ·rw [if_neg c5] at H
  have c5b0 : (t111 == 0) = false:=beq_eq_false_iff_ne.mpr c5
  have c5b1 : (t111 != 0) = true:=bne_iff_ne.mpr c5
  simp only [Option.some.injEq,Prod.mk.injEq] at H
  obtain ⟨rfl,rfl⟩:=H
  go_enter Tryd.func17,Tryd.ntmps17
  go_wp2_with (first|((with_reducible refine a_D (N:=3) rfl ?_);refine a_A ?hg (N:=3) ?hd (cs:=#[.slice A0_0 l0_0.length c0_0]) (t:=24) ?hr ?_;(case hd => rfl);(case hg => rfl);(case hr => first|(go_simp;done)|(go_simp;rfl));intro b_5 hg w32 hbox hb;have b_m:=a_b.mk (hbox);have g_I:=a_b.mk ((by rw [hg];exact (a_g (lup_ HB.out)) : w.heap.size ≤ b_5));have c_f:=a_b.mk ((by rw [hg];exact (a_g (lup_ HB.out)) : w.heap.size ≤ b_5));replace HB:=a_b.mk (a_h (lup_ HB.out) hb);clear hb hbox hg;have f_A : w32.cell? ⟨b_5,0,none⟩ = some (.slice A0_0 l0_0.length c0_0):=(a_l b_m.out 0).trans rfl;have f_H:=a_i b_m.out 0)|((with_reducible refine a_s (f:=28) rfl ?_);refine a_O (some 10) rfl rfl Tryd.func28 (by kernel_rfl) rfl #[.agg #[.slice A0_0 l0_0.length c0_0]] rfl (by (try simp only [List.map_toArray,List.map_cons,List.map_nil]);first|done|rfl|(simp only [List.length_drop,List.length_take];rfl)) ?_;(with_reducible refine (a_H.calls _ _ l0_0 t111 _ ?side1 ?side2 A4.out).mono ?_);(case side1 => repeat (first|exact (Kd.a_N b_M.out HB.out)|(with_reducible refine Kd.a_I ?_ _)|(with_reducible refine Kd.a_J ?_ _)|(with_reducible refine Kd.a_X ?_)));(case side2 => exact b_S.out);rintro e w34 ⟨rfl,hb⟩;refine ⟨_,rfl,?_⟩;replace b_m:=a_b.mk (a_k (bup_ b_m.out) hb);replace HB:=a_b.mk (a_h (by repeat (first|(with_reducible first|exact HB.out|apply a_e|apply a_c|apply a_f|refine a_d ?_ c_f.out)|exact HB.out)) hb);(try clear hb);(try clear hb2);(try clear hk);(try clear hi)))
  go_ret2
  exact ⟨by first|rfl|(simp [a_p,a_q] <;> rfl)|(simp [*, a_p,a_q] <;> rfl),by repeat (first|(with_reducible first|exact HB.out|apply a_e|apply a_c|apply a_f|refine a_d ?_ c_f.out)|exact HB.out)⟩
 rw [if_pos c5] at H
 have c5b0 : (t111 == 0) = true:=beq_iff_eq.mpr c5
 have c5b1 : (t111 != 0) = false:=bne_eq_false_iff_eq.mpr c5
 clear c5
 replace H:=Option.bind_eq_some_iff.mp H
 obtain ⟨t112,A60,H⟩:=H
 replace H : (if t112 = true then ((a_Q.f l0_0 a2).bind fun t113 => (if t113 = true then ((a_w.f k l0_0 a1 a2).bind fun t114 => (some (t114,0))) else (some (0,2)))) else (some (0,2))) = some (r1,r2):=H
 have A6:=a_b.mk A60
 clear A60
 by_cases c7 : t112 = true
 rotate_left
 ·replace c7:=Bool.eq_false_iff.mpr c7
  subst c7
  have H1 : (some (0,2)) = some (r1,r2):=by rw [if_neg (show ¬ (false = true) by decide)] at H;exact H
  clear H
  have H:=H1
  clear H1
  simp only [Option.some.injEq,Prod.mk.injEq] at H
  obtain ⟨rfl,rfl⟩:=H
  go_enter Tryd.func17,Tryd.ntmps17
  go_wp2_with (first|((with_reducible refine a_D (N:=3) rfl ?_);refine a_A ?hg (N:=3) ?hd (cs:=#[.slice A0_0 l0_0.length c0_0]) (t:=24) ?hr ?_;(case hd => rfl);(case hg => rfl);(case hr => first|(go_simp;done)|(go_simp;rfl));intro b_5 hg w27 hbox hb;have b_m:=a_b.mk (hbox);have g_I:=a_b.mk ((by rw [hg];exact (a_g (lup_ HB.out)) : w.heap.size ≤ b_5));have c_f:=a_b.mk ((by rw [hg];exact (a_g (lup_ HB.out)) : w.heap.size ≤ b_5));replace HB:=a_b.mk (a_h (lup_ HB.out) hb);clear hb hbox hg;have f_z : w27.cell? ⟨b_5,0,none⟩ = some (.slice A0_0 l0_0.length c0_0):=(a_l b_m.out 0).trans rfl;have f_G:=a_i b_m.out 0)|((with_reducible refine a_s (f:=28) rfl ?_);refine a_O (some 10) rfl rfl Tryd.func28 (by kernel_rfl) rfl #[.agg #[.slice A0_0 l0_0.length c0_0]] rfl (by (try simp only [List.map_toArray,List.map_cons,List.map_nil]);first|done|rfl|(simp only [List.length_drop,List.length_take];rfl)) ?_;(with_reducible refine (a_H.calls _ _ l0_0 t111 _ ?side1 ?side2 A4.out).mono ?_);(case side1 => repeat (first|exact (Kd.a_N b_M.out HB.out)|(with_reducible refine Kd.a_I ?_ _)|(with_reducible refine Kd.a_J ?_ _)|(with_reducible refine Kd.a_X ?_)));(case side2 => exact b_S.out);rintro e w29 ⟨rfl,hb⟩;refine ⟨_,rfl,?_⟩;replace b_m:=a_b.mk (a_k (bup_ b_m.out) hb);replace HB:=a_b.mk (a_h (by repeat (first|(with_reducible first|exact HB.out|apply a_e|apply a_c|apply a_f|refine a_d ?_ c_f.out)|exact HB.out)) hb);(try clear hb);(try clear hb2);(try clear hk);(try clear hi);have g_R : w29.cell? ⟨b_5,0,none⟩ = some (.slice A0_0 l0_0.length c0_0):=(a_l b_m.out 0).trans rfl;have g_Y:=a_i b_m.out 0)|((with_reducible refine a_s (f:=39) rfl ?_);refine a_O (some 16) rfl rfl Tryd.func39 (by kernel_rfl) rfl #[.agg #[.slice A0_0 l0_0.length c0_0],.int .i64 a1] rfl (by (try simp only [List.map_toArray,List.map_cons,List.map_nil]);first|done|rfl|(simp only [List.length_drop,List.length_take];rfl)) ?_;(with_reducible refine (a_Q.calls _ _ l0_0 a1 false _ ?side1 ?side2 A6.out).mono ?_);(case side1 => repeat (first|exact (Kd.a_N b_M.out HB.out)|(with_reducible refine Kd.a_I ?_ _)|(with_reducible refine Kd.a_J ?_ _)|(with_reducible refine Kd.a_X ?_)));(case side2 => exact b_S.out);rintro e w31 ⟨rfl,hb⟩;refine ⟨_,rfl,?_⟩;replace b_m:=a_b.mk (a_k (bup_ b_m.out) hb);replace HB:=a_b.mk (a_h (by repeat (first|(with_reducible first|exact HB.out|apply a_e|apply a_c|apply a_f|refine a_d ?_ c_f.out)|exact HB.out)) hb);(try clear hb);(try clear hb2);(try clear hk);(try clear hi)))
  go_ret2
  exact ⟨by first|rfl|(simp [a_p,a_q] <;> rfl)|(simp [*, a_p,a_q] <;> rfl),by repeat (first|(with_reducible first|exact HB.out|apply a_e|apply a_c|apply a_f|refine a_d ?_ c_f.out)|exact HB.out)⟩
 subst c7
 have H1 : ((a_Q.f l0_0 a2).bind fun t113 => (if t113 = true then ((a_w.f k l0_0 a1 a2).bind fun t114 => (some (t114,0))) else (some (0,2)))) = some (r1,r2):=by rw [if_pos rfl] at H;exact H
 clear H
 have H:=H1
 clear H1
 replace H:=Option.bind_eq_some_iff.mp H
 obtain ⟨t113,A80,H⟩:=H
 replace H : (if t113 = true then ((a_w.f k l0_0 a1 a2).bind fun t114 => (some (t114,0))) else (some (0,2))) = some (r1,r2):=H
 have A8:=a_b.mk A80
 clear A80
 by_cases c9 : t113 = true
 rotate_left
 ·replace c9:=Bool.eq_false_iff.mpr c9
  subst c9
  have H1 : (some (0,2)) = some (r1,r2):=by rw [if_neg (show ¬ (false = true) by decide)] at H;exact H
  clear H
  have H:=H1
  clear H1
  simp only [Option.some.injEq,Prod.mk.injEq] at H
  obtain ⟨rfl,rfl⟩:=H
  go_enter Tryd.func17,Tryd.ntmps17
  go_wp2_with (first|((with_reducible refine a_D (N:=3) rfl ?_);refine a_A ?hg (N:=3) ?hd (cs:=#[.slice A0_0 l0_0.length c0_0]) (t:=24) ?hr ?_;(case hd => rfl);(case hg => rfl);(case hr => first|(go_simp;done)|(go_simp;rfl));intro b_5 hg w20 hbox hb;have b_m:=a_b.mk (hbox);have g_I:=a_b.mk ((by rw [hg];exact (a_g (lup_ HB.out)) : w.heap.size ≤ b_5));have c_f:=a_b.mk ((by rw [hg];exact (a_g (lup_ HB.out)) : w.heap.size ≤ b_5));replace HB:=a_b.mk (a_h (lup_ HB.out) hb);clear hb hbox hg;have i_j : w20.cell? ⟨b_5,0,none⟩ = some (.slice A0_0 l0_0.length c0_0):=(a_l b_m.out 0).trans rfl;have i_Q:=a_i b_m.out 0)|((with_reducible refine a_s (f:=28) rfl ?_);refine a_O (some 10) rfl rfl Tryd.func28 (by kernel_rfl) rfl #[.agg #[.slice A0_0 l0_0.length c0_0]] rfl (by (try simp only [List.map_toArray,List.map_cons,List.map_nil]);first|done|rfl|(simp only [List.length_drop,List.length_take];rfl)) ?_;(with_reducible refine (a_H.calls _ _ l0_0 t111 _ ?side1 ?side2 A4.out).mono ?_);(case side1 => repeat (first|exact (Kd.a_N b_M.out HB.out)|(with_reducible refine Kd.a_I ?_ _)|(with_reducible refine Kd.a_J ?_ _)|(with_reducible refine Kd.a_X ?_)));(case side2 => exact b_S.out);rintro e w22 ⟨rfl,hb⟩;refine ⟨_,rfl,?_⟩;replace b_m:=a_b.mk (a_k (bup_ b_m.out) hb);replace HB:=a_b.mk (a_h (by repeat (first|(with_reducible first|exact HB.out|apply a_e|apply a_c|apply a_f|refine a_d ?_ c_f.out)|exact HB.out)) hb);(try clear hb);(try clear hb2);(try clear hk);(try clear hi);have i_k : w22.cell? ⟨b_5,0,none⟩ = some (.slice A0_0 l0_0.length c0_0):=(a_l b_m.out 0).trans rfl;have i_R:=a_i b_m.out 0)|((with_reducible refine a_s (f:=39) rfl ?_);refine a_O (some 16) rfl rfl Tryd.func39 (by kernel_rfl) rfl #[.agg #[.slice A0_0 l0_0.length c0_0],.int .i64 a1] rfl (by (try simp only [List.map_toArray,List.map_cons,List.map_nil]);first|done|rfl|(simp only [List.length_drop,List.length_take];rfl)) ?_;(with_reducible refine (a_Q.calls _ _ l0_0 a1 true _ ?side1 ?side2 A6.out).mono ?_);(case side1 => repeat (first|exact (Kd.a_N b_M.out HB.out)|(with_reducible refine Kd.a_I ?_ _)|(with_reducible refine Kd.a_J ?_ _)|(with_reducible refine Kd.a_X ?_)));(case side2 => exact b_S.out);rintro e w24 ⟨rfl,hb⟩;refine ⟨_,rfl,?_⟩;replace b_m:=a_b.mk (a_k (bup_ b_m.out) hb);replace HB:=a_b.mk (a_h (by repeat (first|(with_reducible first|exact HB.out|apply a_e|apply a_c|apply a_f|refine a_d ?_ c_f.out)|exact HB.out)) hb);(try clear hb);(try clear hb2);(try clear hk);(try clear hi);have d_e : w24.cell? ⟨b_5,0,none⟩ = some (.slice A0_0 l0_0.length c0_0):=(a_l b_m.out 0).trans rfl;have d_g:=a_i b_m.out 0)|(go_at_call 39;(with_reducible refine (a_Q.calls _ _ l0_0 a2 false _ ?side1 ?side2 A8.out).mono ?_);(case side1 => repeat (first|exact (Kd.a_N b_M.out HB.out)|(with_reducible refine Kd.a_I ?_ _)|(with_reducible refine Kd.a_J ?_ _)|(with_reducible refine Kd.a_X ?_)));(case side2 => exact b_S.out);rintro e w26 ⟨rfl,hb⟩;replace b_m:=a_b.mk (a_k (bup_ b_m.out) hb);replace HB:=a_b.mk (a_h (by repeat (first|(with_reducible first|exact HB.out|apply a_e|apply a_c|apply a_f|refine a_d ?_ c_f.out)|exact HB.out)) hb);(try clear hb);(try clear hb2);(try clear hk);(try clear hi)))
  go_ret2
  exact ⟨by first|rfl|(simp [a_p,a_q] <;> rfl)|(simp [*, a_p,a_q] <;> rfl),by repeat (first|(with_reducible first|exact HB.out|apply a_e|apply a_c|apply a_f|refine a_d ?_ c_f.out)|exact HB.out)⟩
 subst c9
 have H1 : ((a_w.f k l0_0 a1 a2).bind fun t114 => (some (t114,0))) = some (r1,r2):=by rw [if_pos rfl] at H;exact H
 clear H
 have H:=H1
 clear H1
 replace H:=Option.bind_eq_some_iff.mp H
 obtain ⟨t114,A100,H⟩:=H
 replace H : (some (t114,0)) = some (r1,r2):=H
 have A10:=a_b.mk A100
 clear A100
 simp only [Option.some.injEq,Prod.mk.injEq] at H
 obtain ⟨rfl,rfl⟩:=H
 go_enter Tryd.func17,Tryd.ntmps17
 go_wp2_with (first|((with_reducible refine a_D (N:=3) rfl ?_);refine a_A ?hg (N:=3) ?hd (cs:=#[.slice A0_0 l0_0.length c0_0]) (t:=24) ?hr ?_;(case hd => rfl);(case hg => rfl);(case hr => first|(go_simp;done)|(go_simp;rfl));intro b_5 hg w11 hbox hb;have b_m:=a_b.mk (hbox);have g_I:=a_b.mk ((by rw [hg];exact (a_g (lup_ HB.out)) : w.heap.size ≤ b_5));have c_f:=a_b.mk ((by rw [hg];exact (a_g (lup_ HB.out)) : w.heap.size ≤ b_5));replace HB:=a_b.mk (a_h (lup_ HB.out) hb);clear hb hbox hg;have g_N : w11.cell? ⟨b_5,0,none⟩ = some (.slice A0_0 l0_0.length c0_0):=(a_l b_m.out 0).trans rfl;have g_U:=a_i b_m.out 0)|((with_reducible refine a_s (f:=28) rfl ?_);refine a_O (some 10) rfl rfl Tryd.func28 (by kernel_rfl) rfl #[.agg #[.slice A0_0 l0_0.length c0_0]] rfl (by (try simp only [List.map_toArray,List.map_cons,List.map_nil]);first|done|rfl|(simp only [List.length_drop,List.length_take];rfl)) ?_;(with_reducible refine (a_H.calls _ _ l0_0 t111 _ ?side1 ?side2 A4.out).mono ?_);(case side1 => repeat (first|exact (Kd.a_N b_M.out HB.out)|(with_reducible refine Kd.a_I ?_ _)|(with_reducible refine Kd.a_J ?_ _)|(with_reducible refine Kd.a_X ?_)));(case side2 => exact b_S.out);rintro e w13 ⟨rfl,hb⟩;refine ⟨_,rfl,?_⟩;replace b_m:=a_b.mk (a_k (bup_ b_m.out) hb);replace HB:=a_b.mk (a_h (by repeat (first|(with_reducible first|exact HB.out|apply a_e|apply a_c|apply a_f|refine a_d ?_ c_f.out)|exact HB.out)) hb);(try clear hb);(try clear hb2);(try clear hk);(try clear hi);have g_O : w13.cell? ⟨b_5,0,none⟩ = some (.slice A0_0 l0_0.length c0_0):=(a_l b_m.out 0).trans rfl;have g_V:=a_i b_m.out 0)|((with_reducible refine a_s (f:=39) rfl ?_);refine a_O (some 16) rfl rfl Tryd.func39 (by kernel_rfl) rfl #[.agg #[.slice A0_0 l0_0.length c0_0],.int .i64 a1] rfl (by (try simp only [List.map_toArray,List.map_cons,List.map_nil]);first|done|rfl|(simp only [List.length_drop,List.length_take];rfl)) ?_;(with_reducible refine (a_Q.calls _ _ l0_0 a1 true _ ?side1 ?side2 A6.out).mono ?_);(case side1 => repeat (first|exact (Kd.a_N b_M.out HB.out)|(with_reducible refine Kd.a_I ?_ _)|(with_reducible refine Kd.a_J ?_ _)|(with_reducible refine Kd.a_X ?_)));(case side2 => exact b_S.out);rintro e w15 ⟨rfl,hb⟩;refine ⟨_,rfl,?_⟩;replace b_m:=a_b.mk (a_k (bup_ b_m.out) hb);replace HB:=a_b.mk (a_h (by repeat (first|(with_reducible first|exact HB.out|apply a_e|apply a_c|apply a_f|refine a_d ?_ c_f.out)|exact HB.out)) hb);(try clear hb);(try clear hb2);(try clear hk);(try clear hi);have c_w : w15.cell? ⟨b_5,0,none⟩ = some (.slice A0_0 l0_0.length c0_0):=(a_l b_m.out 0).trans rfl;have c_x:=a_i b_m.out 0)|(go_at_call 39;(with_reducible refine (a_Q.calls _ _ l0_0 a2 true _ ?side1 ?side2 A8.out).mono ?_);(case side1 => repeat (first|exact (Kd.a_N b_M.out HB.out)|(with_reducible refine Kd.a_I ?_ _)|(with_reducible refine Kd.a_J ?_ _)|(with_reducible refine Kd.a_X ?_)));(case side2 => exact b_S.out);rintro e w17 ⟨rfl,hb⟩;replace b_m:=a_b.mk (a_k (bup_ b_m.out) hb);replace HB:=a_b.mk (a_h (by repeat (first|(with_reducible first|exact HB.out|apply a_e|apply a_c|apply a_f|refine a_d ?_ c_f.out)|exact HB.out)) hb);(try clear hb);(try clear hb2);(try clear hk);(try clear hi);have i_i : w17.cell? ⟨b_5,0,none⟩ = some (.slice A0_0 l0_0.length c0_0):=(a_l b_m.out 0).trans rfl;have i_P:=a_i b_m.out 0)|((with_reducible refine a_s (f:=40) rfl ?_);refine a_O (some 27) rfl rfl Tryd.func40 (by kernel_rfl) rfl #[.agg #[.slice A0_0 l0_0.length c0_0],.int .i64 a1,.int .i64 a2] rfl (by (try simp only [List.map_toArray,List.map_cons,List.map_nil]);first|done|rfl|(simp only [List.length_drop,List.length_take];rfl)) ?_;(with_reducible refine (a_w.calls k _ _ l0_0 a1 a2 t114 _ ?side1 ?side2 A10.out).mono ?_);(case side1 => repeat (first|exact (Kd.a_N b_M.out HB.out)|(with_reducible refine Kd.a_I ?_ _)|(with_reducible refine Kd.a_J ?_ _)|(with_reducible refine Kd.a_X ?_)));(case side2 => exact b_S.out);rintro e w19 ⟨rfl,hb⟩;refine ⟨_,rfl,?_⟩;replace b_m:=a_b.mk (a_k (bup_ b_m.out) hb);replace HB:=a_b.mk (a_h (by repeat (first|(with_reducible first|exact HB.out|apply a_e|apply a_c|apply a_f|refine a_d ?_ c_f.out)|exact HB.out)) hb);(try clear hb);(try clear hb2);(try clear hk);(try clear hi)))
 go_ret2
 exact ⟨by first|rfl|(simp [a_p,a_q] <;> rfl)|(simp [*, a_p,a_q] <;> rfl),by repeat (first|(with_reducible first|exact HB.out|apply a_e|apply a_c|apply a_f|refine a_d ?_ c_f.out)|exact HB.out)⟩
end Go.Proofs.YtcpfcehfgenljaaDoor.Q
end
section
namespace Go.Proofs.YtcpfcehfgenljaaDoor.Q
open Go.RowKit Go.Proofs.YtcpfcehfgenljaaDoorW.PrintWords Go.Proofs.YtcpfcehfgenljaaDoorW.PrintLast Go.Proofs.YtcpfcehfgenljaaDoorW.PrintMore
set_option linter.unusedVariables false
set_option linter.unusedSimpArgs false
def b_o.f (a0 : Int) : Option (Int):=if a0 < 0 then (some 0) else (if a0 ≥ 8 then (some 0) else (if 0 ≤ a0 then (some (shl .u32 1 a0)) else (none)))
set_option maxHeartbeats 8000000 in
set_option maxRecDepth 100000 in
theorem b_o.calls (a0 : Int) (r : Int) (w : World) (h : b_o.f a0 = some r) :
 Calls Tryd.prog 52 #[.int .i64 a0] w fun e w' => e = .returned (.int .u32 r) ∧ a_V w w':=by
 have H : (if a0 < 0 then (some 0) else (if a0 ≥ 8 then (some 0) else (if 0 ≤ a0 then (some (shl .u32 1 a0)) else (none)))) = some r:=h
 clear h
 by_cases c2 : a0 < 0
 ·rw [if_pos c2] at H
  have c2b0 : decide (a0 < 0) = true:=decide_eq_true c2
  clear c2
  obtain rfl:=Option.some.inj H
  go_enter Tryd.func52,Tryd.ntmps52
  go_wp2
  go_ret
  exact ⟨by first|rfl|(simp;done)|(simp [*];done),by repeat (first|exact a_V.refl _|apply a_V.step)⟩
 rw [if_neg c2] at H
 have c2b0 : decide (a0 < 0) = false:=decide_eq_false c2
 clear c2
 by_cases c3 : a0 ≥ 8
 ·rw [if_pos c3] at H
  have c3b0 : decide (8 ≤ a0) = true:=decide_eq_true c3
  clear c3
  obtain rfl:=Option.some.inj H
  go_enter Tryd.func52,Tryd.ntmps52
  go_wp2
  go_ret
  exact ⟨by first|rfl|(simp;done)|(simp [*];done),by repeat (first|exact a_V.refl _|apply a_V.step)⟩
 rw [if_neg c3] at H
 have c3b0 : decide (8 ≤ a0) = false:=decide_eq_false c3
 clear c3
 by_cases c4 : 0 ≤ a0
 rotate_left
 ·rw [if_neg c4] at H
  exact absurd H (by simp)
 rw [if_pos c4] at H
 have c4b0:=eq_true c4
 have c4b1 : decide (0 ≤ a0) = true:=decide_eq_true c4
 clear c4
 obtain ⟨ji5,hji5⟩ : ∃ j_ : Int,(shl .u32 1 a0) = j_:=⟨_,rfl⟩
 replace H : (some ji5) = some r:=by first|(rw [hji5] at H;exact H)|(simp only [hji5] at H ⊢; exact H)
 have hji5_ : (IntKind.u32.wrap (1 * 2 ^ min a0.toNat 32)) = ji5:=hji5
 have hji5z : a0 ≤ 32 → (IntKind.u32.wrap (1 * 2 ^ a0.toNat)) = ji5:=f_U hji5
 have hji5u : (IntKind.u32.wrap (2 ^ min a0.toNat 32)) = ji5:=by have h_:=hji5_;rw [Int.one_mul] at h_;exact h_
 have hji5v : a0 ≤ 32 → (IntKind.u32.wrap (2 ^ a0.toNat)) = ji5:=fun hle_ => by have h_:=hji5z hle_;rw [Int.one_mul] at h_;exact h_
 obtain rfl:=Option.some.inj H
 go_enter Tryd.func52,Tryd.ntmps52
 go_wp2
 go_ret
 exact ⟨by first|rfl|(simp;done)|(simp only [← hji5] <;> (first|rfl|simp))|(simp [*];done),by repeat (first|exact a_V.refl _|apply a_V.step)⟩
end Go.Proofs.YtcpfcehfgenljaaDoor.Q
end
section
namespace Go.Proofs.YtcpfcehfgenljaaDoor.Q
open Go.RowKit Go.Proofs.YtcpfcehfgenljaaDoorW.PrintWords Go.Proofs.YtcpfcehfgenljaaDoorW.PrintLast Go.Proofs.YtcpfcehfgenljaaDoorW.PrintMore
set_option linter.unusedVariables false
set_option linter.unusedSimpArgs false
def a_x.l0 : Nat → Int → List Int → Int → Int → Option (Int × Int)
 | 0,_,_,_,_ => none
 | k + 1,x4,x8,x9,x10 => if x10 < x9 then (if 0 ≤ x10 then (if x10 < (x8.length : Int) then ((b_o.f (rd x8 x10)).bind fun t116 => (if t116 = 0 then (some (0,2)) else (a_x.l0 k (Go.bits .or .u32 x4 t116) x8 x9 (wrap64 (x10 + 1))))) else (none)) else (none)) else (some (x4,0))
def a_x.f (k : Nat) (l0 : List Int) : Option (Int × Int):=a_x.l0 k 0 l0 (l0.length : Int) 0
theorem a_x.c_i : ∀ k,(∀ y0 y1 y2 y3,LeO (a_x.l0 k y0 y1 y2 y3) (a_x.l0 (k + 1) y0 y1 y2 y3))
 | 0 => fun _ _ _ _ r h => by simp [a_x.l0] at h
 | k + 1 => by
  have ih0:=a_x.c_i k
  ·intro y0 y1 y2 y3
   unfold a_x.l0
   repeat' first
   | (with_reducible exact ih0 _ _ _ _)
   | (with_reducible exact LeO.refl _)
   | (with_reducible exact LeO.none _)
   | (with_reducible refine LeO.ite ?_ ?_)
   | (with_reducible refine LeO.bind ?_ (fun _ => ?_))
   | exact ih0 _ _ _ _
   | exact LeO.none _
   | refine LeO.ite ?_ ?_
   | refine LeO.bind ?_ (fun _ => ?_)
theorem a_x.mono : ∀ a0 k,LeO (a_x.f k a0) (a_x.f (k + 1) a0):=by
 intro a0 k
 have ih0:=a_x.c_i k
 unfold a_x.f
 repeat' first
  | (with_reducible exact ih0 _ _ _ _)
  | (with_reducible exact LeO.refl _)
  | (with_reducible exact LeO.none _)
  | (with_reducible refine LeO.ite ?_ ?_)
  | (with_reducible refine LeO.bind ?_ (fun _ => ?_))
  | exact ih0 _ _ _ _
  | exact LeO.none _
  | refine LeO.ite ?_ ?_
  | refine LeO.bind ?_ (fun _ => ?_)
set_option maxHeartbeats 8000000 in
set_option maxRecDepth 100000 in
theorem a_x.calls (k : Nat) (A0 : Option Addr) (c0 : Nat) (l0 : List Int) (r1 : Int) (r2 : Int) (w : World) (hr0 : Kd.C (Kd.int .i64) w A0 l0.length l0) (hc0 : l0.length ≤ c0) (h : a_x.f k l0 = some (r1,r2)) :
 Calls Tryd.prog 32 #[.slice A0 l0.length c0] w fun e w' => e = .returned (.tuple #[.int .u32 r1,.int .i64 r2]) ∧ a_V w w':=by
 have HR0:=a_b.mk hr0
 have HC0:=a_b.mk hc0
 clear hr0 hc0
 have H : (a_x.l0 k 0 l0 (l0.length : Int) 0) = some (r1,r2):=h
 clear h
 have H':=a_b.mk H
 clear H
 go_enter Tryd.func32,Tryd.ntmps32
 go_wp2
 go_loopg [4,10] k (fun kq v4 v10 w' => ∃ (x4_1 : Int) (x10_1 : Int),v4 = .int .u32 x4_1 ∧ v10 = .int .i64 x10_1 ∧ a_b (a_x.l0 kq x4_1 l0 (l0.length : Int) x10_1 = some (r1,r2)) ∧ a_b (kq ≤ k) ∧ a_V w w')
 case atStart => exact ⟨(0),(0),(by first|rfl|(simp;done)|(simp [*];done)),(by first|rfl|(simp;done)|(simp [*];done)),H',⟨Nat.le_refl _⟩,by repeat (first|exact a_V.refl _|apply a_V.step)⟩
 case round =>
  clear H'
  obtain ⟨x4_1,x10_1,rfl,rfl,HA,HK1,⟨m1,rfl⟩⟩:=hrel
  cases gk with
  | zero => exact absurd HA.out (by simp [a_x.l0])
  | succ k1 =>
   have H:=HA.out
   clear HA
   simp only [a_x.l0] at H
   by_cases c2 : x10_1 < (l0.length : Int)
   rotate_left
   ·rw [if_neg c2] at H
    have c2b0 : decide (x10_1 < (l0.length : Int)) = false:=decide_eq_false c2
    clear c2
    simp only [Option.some.injEq,Prod.mk.injEq] at H
    obtain ⟨rfl,rfl⟩:=H
    go_wp2
    go_ret2
    exact ⟨by first|rfl|(simp;done)|(simp [*];done),by repeat (first|exact a_V.refl _|apply a_V.step)⟩
   rw [if_pos c2] at H
   have c2b0 : decide (x10_1 < (l0.length : Int)) = true:=decide_eq_true c2
   clear c2
   by_cases c3 : 0 ≤ x10_1
   rotate_left
   ·rw [if_neg c3] at H
    exact absurd H (by simp)
   rw [if_pos c3] at H
   have c3b0 : decide (0 ≤ x10_1) = true:=decide_eq_true c3
   clear c3
   by_cases c4 : x10_1 < (l0.length : Int)
   rotate_left
   ·rw [if_neg c4] at H
    exact absurd H (by simp)
   rw [if_pos c4] at H
   have c4b0 : decide (x10_1 < (l0.length : Int)) = true:=decide_eq_true c4
   clear c4
   replace H:=Option.bind_eq_some_iff.mp H
   obtain ⟨t116,A50,H⟩:=H
   replace H : (if t116 = 0 then (some (0,2)) else (a_x.l0 k1 (Go.bits .or .u32 x4_1 t116) l0 (l0.length : Int) (wrap64 (x10_1 + 1)))) = some (r1,r2):=H
   have A5:=a_b.mk A50
   clear A50
   by_cases c6 : t116 = 0
   ·rw [if_pos c6] at H
    have c6b0 : (t116 == 0) = true:=beq_iff_eq.mpr c6
    have c6b1 : (t116 != 0) = false:=bne_eq_false_iff_eq.mpr c6
    clear c6
    simp only [Option.some.injEq,Prod.mk.injEq] at H
    obtain ⟨rfl,rfl⟩:=H
    have p115 : 0 ≤ (x10_1 : Int):=of_decide_eq_true (by first|(with_reducible assumption)|assumption)
    have q115 : x10_1 < (l0.length : Int):=of_decide_eq_true (by first|(with_reducible assumption)|assumption)
    obtain ⟨ad115,e115,g_0⟩:=Kd.c_X HR0.out x10_1 p115 q115
    cases e115
    replace p115:=eq_true p115
    replace q115:=eq_true q115
    go_wp2_with (first|((with_reducible refine a_s (f:=52) rfl ?_);refine a_O (some 15) rfl rfl Tryd.func52 (by kernel_rfl) rfl #[.int .i64 (rd l0 x10_1)] rfl (by (try simp only [List.map_toArray,List.map_cons,List.map_nil]);first|done|rfl|(simp only [List.length_drop,List.length_take];rfl)) ?_;(with_reducible refine (b_o.calls (rd l0 x10_1) t116 _ A5.out).mono ?_);rintro e w' ⟨rfl,⟨nd,rfl⟩⟩;refine ⟨_,rfl,?_⟩))
    go_ret2
    exact ⟨by first|rfl|(simp;done)|(simp [*];done),by repeat (first|exact a_V.refl _|apply a_V.step)⟩
   rw [if_neg c6] at H
   have c6b0 : (t116 == 0) = false:=beq_eq_false_iff_ne.mpr c6
   have c6b1 : (t116 != 0) = true:=bne_iff_ne.mpr c6
   have H':=a_b.mk H
   clear H
   have p115 : 0 ≤ (x10_1 : Int):=of_decide_eq_true (by first|(with_reducible assumption)|assumption)
   have q115 : x10_1 < (l0.length : Int):=of_decide_eq_true (by first|(with_reducible assumption)|assumption)
   obtain ⟨ad115,e115,g_0⟩:=Kd.c_X HR0.out x10_1 p115 q115
   cases e115
   replace p115:=eq_true p115
   replace q115:=eq_true q115
   go_wp2_with (first|((with_reducible refine a_s (f:=52) rfl ?_);refine a_O (some 15) rfl rfl Tryd.func52 (by kernel_rfl) rfl #[.int .i64 (rd l0 x10_1)] rfl (by (try simp only [List.map_toArray,List.map_cons,List.map_nil]);first|done|rfl|(simp only [List.length_drop,List.length_take];rfl)) ?_;(with_reducible refine (b_o.calls (rd l0 x10_1) t116 _ A5.out).mono ?_);rintro e w' ⟨rfl,⟨nd,rfl⟩⟩;refine ⟨_,rfl,?_⟩))
   go_roundg k1
   case measure => have:=HK1.out;omega
   case rel => exact ⟨(Go.bits .or .u32 x4_1 t116),(wrap64 (x10_1 + 1)),(by first|rfl|(simp;done)|(simp [*];done)),(by first|rfl|(simp;done)|(simp [*];done)),H',⟨by have:=HK1.out;omega⟩,by repeat (first|exact a_V.refl _|apply a_V.step)⟩
end Go.Proofs.YtcpfcehfgenljaaDoor.Q
end
section
namespace Go.Proofs.YtcpfcehfgenljaaDoor.Q
open Go.RowKit Go.Proofs.YtcpfcehfgenljaaDoorW.PrintWords Go.Proofs.YtcpfcehfgenljaaDoorW.PrintLast Go.Proofs.YtcpfcehfgenljaaDoorW.PrintMore
set_option linter.unusedVariables false
set_option linter.unusedSimpArgs false
section
attribute [local go_sem] Oper.semAt_some
def e_E {α : Type} (F : Fence) (m : Nat) (P : Program) (gf : Nat) (lb : Array Value) (encs : α → Array Value) (Kp : World → World → Prop) (S : List α → Prop) (N : Nat) (w0 : World) : Prop :=
 ∀ (l : Nat) (J : List α → World → Prop) (W : World),Below w0.heap.size w0 W → AbidesFrom W.heap.size J →
  (∀ pre x W1,J pre W1 → pre.length < N → YieldAt F (m - 1) P l (encs x) W1 fun e W' => e = .returned (.bool true) ∧ J (pre ++ [x]) W' ∧ Kp W1 W') → J [] W →
  CallsIn F m P gf (#[.func (.yield l) #[] #[]] ++ lb) W fun e W' => (∃ v,e = .returned v) ∧ ∃ xs,S xs ∧ J xs W'
theorem c_6 {F : Fence} {n : Nat} {P : Program} {α : Type} {g : Operand} {ps : Array Tmp} {assign body : Code} {Q : Exit → Act → World → Prop} {a : Act} {w : World}
 (hro : F.round = none) (h1 : 1 ≤ n) {gf : Nat} {lb : Array Value} (hg : a.eval g = .func (.func gf) #[] lb) (hFg : F.fn gf) (eg : ∀ args w,(callFunc gf args).run P w = .ok (.enter gf args) w)
 {encs : α → Array Value} {Kp : World → World → Prop} {S : List α → Prop} {N : Nat} {w0 : World} (hseq : e_E F (n - 1) P gf lb encs Kp S N w0)
 (hKt : ∀ {A B C : World}, Kp A B → Kp B C → Kp A C) (hKb : ∀ (W : World) (l : Nat) (o o' : Obj),w.heap.size ≤ l → W.heap[l]? = some o → o.isCells = false → o.isWalk = false → Kp W (W.putObj l o')) (hb0 : Below w0.heap.size w0 w) (hps : ∀ x,(encs x).size = ps.size)
 (I : List α → World → Prop) (hI : OwnFrom w.heap.size I) (h0 : I [] w) (a₁ : α → Act)
 (hassign : ∀ (l : Nat) (x : α) (W : World) (K : Act → World → Prop),K (a₁ x) W →
  assign.wpIn (F.inRound l) (n - 1 - 1) P (Exit.then K (fun _ _ _ => False)) { tmps:=(ps.zip (encs x)).foldl (fun t (p,v) => t.setIfInBounds p v) a.tmps,defers:=[] } W)
 (hbody : ∀ (l : Nat) (pre : List α) (x : α) (W : World),I pre W → pre.length < N → body.wpIn (F.inRound l) (n - 1 - 1) P (Exit.then (fun _ W' => KeepsFrom w.heap.size W W' ∧ Kp W W' ∧ I (pre ++ [x]) W') (fun _ _ _ => False)) (a₁ x) W)
 (hdone : ∀ (D : Nat) (xs : List α) (W : World),w.heap.size ≤ D → S xs → I xs W → W.heap[D]? = some (.deferred (some [])) → Q .normal { a with defers := { target:=.collected D,args:=#[] } :: a.defers } W) :
 (Code.rangeFunc g ps assign body).wpIn F n P Q a w:=by
 refine wpIn_rangeFunc fun fn hfn => ?_
 rw [hro]
 obtain ⟨rec,hrec⟩ : ∃ rec : LoopState → Option Code → Loop,rec = fun st pe => { state:=st,pending:=pe,fn,tmps:=a.tmps,params:=ps,assign,body,defers:=w.heap.size } := ⟨_,rfl⟩
 have hL0 : ((w.alloc (.deferred (some []))).alloc (.loop (rec .ready none))).heap[w.heap.size + 1]? = some (.loop (rec .ready none)):=by
  have:=World.alloc_heap_new (w.alloc (.deferred (some []))) (.loop (rec .ready none));rwa [World.size_alloc] at this
 have hD0 : ((w.alloc (.deferred (some []))).alloc (.loop (rec .ready none))).heap[w.heap.size]? = some (.deferred (some [])):=(Below.heap_alloc _ _ _ (by simp)).trans (World.alloc_heap_new w _)
 have hI0 : I [] ((w.alloc (.deferred (some []))).alloc (.loop (rec .ready none))):=hI.alloc _ (hI.alloc _ h0)
 have hB0 : Below w0.heap.size w0 ((w.alloc (.deferred (some []))).alloc (.loop (rec .ready none))):=hb0.trans ((((Below.refl _ w).alloc (Nat.le_refl _) _).alloc (by simp) _).mono hb0.size)
 have hZ0 : ((w.alloc (.deferred (some []))).alloc (.loop (rec .ready none))).heap.size = w.heap.size + 2:=by simp
 have hent:=run_enterLoop_outer (P:=P) (w:=w) fn a.tmps ps assign body
 rw [show (Loop.mk .ready none fn a.tmps ps assign body w.heap.size) = rec .ready none by rw [hrec]] at hent
 generalize (w.alloc (.deferred (some []))).alloc (.loop (rec .ready none)) = W1 at *
 refine ⟨w.heap.size + 1,[{ target:=.collected w.heap.size,args:=#[] }],W1, { target:=.fn (.func gf) lb,args:=#[.func (.yield (w.heap.size + 1)) #[] #[]] }, W1,gf,#[.func (.yield (w.heap.size + 1)) #[] #[]] ++ lb,W1,hent,?_,?_,?_,fun _ => h1,?_⟩
 ·simp only [resolve,hg];simp [go_sem]
 ·intro f' hf';simp [Target.leads] at hf';subst hf';exact hFg
 ·simp [invoke,go_sem,eg]
 refine (hseq (w.heap.size + 1) (fun pre W => I pre W ∧ W.heap[w.heap.size + 1]? = some (.loop (rec .ready none)) ∧ W.heap[w.heap.size]? = some (.deferred (some []))) W1 hB0 ?_ ?_ ⟨hI0,hL0,hD0⟩).mono ?_
 ·intro s A B row hs hg' hr
  have hr' : ∀ r,row = some r → ∃ o : Obj,A.heap[r]? = some o ∧ o.isWalk = true:=fun r e => (hr r e).2
  exact ⟨hI s A B row hs.1 hg' (fun r e => by obtain ⟨hB,o,ho,hw⟩:=hr r e;exact ⟨by omega,o,ho,Obj.not_cells_of_walk hw⟩),(grownBy_keeps hg' hr' hs.2.1 rfl).trans hs.2.1,(grownBy_keeps hg' hr' hs.2.2 rfl).trans hs.2.2⟩
 ·rintro pre x W ⟨hi,hl,hk⟩ hlen
  have hlt : w.heap.size + 1 < W.heap.size:=(Array.getElem?_eq_some_iff.1 hl).1
  have hy:=run_yield (P:=P) (args:=encs x) hl (by rw [hrec];exact hps x)
  rw [hrec] at hy
  refine ⟨fn,_,assign,body,hy,roundIn_of_wpIn hfn (hassign _ x W _ ⟨_,run_beginRound hl (by rw [hrec]),?_⟩)⟩
  have hl2 : (W.putObj (w.heap.size + 1) (.loop { rec .ready none with state:=.busy })).heap[w.heap.size + 1]? = some (.loop { rec .ready none with state:=.busy }):=World.putObj_heap_same hlt
  have hk2 : (W.putObj (w.heap.size + 1) (.loop { rec .ready none with state:=.busy })).heap[w.heap.size]? = some (.deferred (some [])):=(World.putObj_heap_other (by omega)).trans hk
  refine wpIn_mono (hbody _ pre x _ (hI.putObj _ hi (by omega) hl rfl) hlen) ?_
  intro e a3 W3 hp
  cases e with
  | normal =>
   obtain ⟨hk3,hkp3,hi3⟩:=hp
   have hl3:=hk3.same _ _ (by omega) hl2 rfl
   have hend:=run_endRound (P:=P) none hl3
   rw [hrec] at hend
   rw [hrec] at hl3
   exact ⟨_,_,hend,rfl,⟨hI.putObj _ hi3 (by omega) hl3 rfl,by rw [hrec];exact World.putObj_heap_same (Array.getElem?_eq_some_iff.1 hl3).1,(World.putObj_heap_other (by omega)).trans (hk3.same _ _ (Nat.le_refl _) hk2 rfl)⟩,hKt (hKt (hKb _ _ _ _ (by omega) hl rfl rfl) hkp3) (hKb _ _ _ _ (by omega) hl3 rfl rfl)⟩
  | ret => exact hp.elim
  | exit id => exact hp.elim
  | goto t => exact hp.elim
  | panic ch => exact hp.elim
  | outgrown => exact hp.elim
 rintro e W2 ⟨⟨v,rfl⟩,xs,hS,hi,hl,hk⟩
 exact ⟨none,_,by have:=run_endLoop (P:=P) hl (by rw [hrec];simp);rw [hrec] at this;exact this,hdone _ xs _ (Nat.le_refl _) hS (hI.putObj _ hi (by omega) hl rfl) ((World.putObj_heap_other (by omega)).trans hk)⟩
theorem d_o {β : Type} {B : Nat} {J : β → World → Prop} (h : AbidesFrom B J) {s : β} {A C : World} (hs : J s A) (hb : Below A.heap.size A C) : J s C :=
 h s A C none hs ⟨hb.os,hb.tape,hb.output,hb.size,fun k hk _ => hb.block k hk⟩ (fun r e => by cases e)
def c_m (p : S56 → Bool) (xs : List S56) (k : Nat) : List Nat:=(List.range k).filter fun i => p (a_u xs (i : Int))
theorem d_n (p : S56 → Bool) (xs : List S56) (k : Nat) : (c_m p xs k).length ≤ k:=by unfold c_m;exact Nat.le_trans (List.length_filter_le _ _) (by simp)
theorem e_7 (p : S56 → Bool) (xs : List S56) (k : Nat) : c_m p xs (k + 1) = c_m p xs k ++ (if p (a_u xs (k : Int)) = true then [k] else []):=by
 unfold c_m
 rw [List.range_succ,List.filter_append]
 cases h : p (a_u xs (k : Int)) <;> simp [h]
theorem f_0.calls (g : Nat) (lb : Array Value) (A : Option Addr) (n c : Nat) (w : World) :
 Calls Tryd.prog 60 #[.agg #[.slice A n c],.func (.func g) #[] lb] w fun e w' => e = .returned (.func (.func 66) #[] #[.pointer (some ⟨w.heap.size,0,none⟩),.pointer (some ⟨w.heap.size + 1,0,none⟩)]) ∧ w' = (w.alloc (.cells #[.slice A n c] 24)).alloc (.cells #[.func (.func g) #[] lb] 81):=by
 go_enter Tryd.func60,Tryd.ntmps60
 go_wp2
 go_ret
 exact ⟨by simp,rfl⟩
set_option maxRecDepth 100000 in
set_option maxHeartbeats 4000000 in
theorem d_1 (n : Nat) (hn : 2 ≤ n) (g : Nat) (lb : Array Value) (eg : ∀ args w,(callFunc g args).run Tryd.prog w = .ok (.enter g args) w) (p : S56 → Bool) (A : Option Addr) (c : Nat) (xs : List S56) (hl : xs.length ≤ 1000000) (wb w0 : World) (gt gi : Nat)
 (hgt : wb.heap[gt]? = some (.cells #[.slice A xs.length c] 24 (0,0))) (hgi : wb.heap[gi]? = some (.cells #[.func (.func g) #[] lb] 81 (0,0))) (hr : Kd.C k56 wb A xs.length xs)
 (hp : ∀ W,Below wb.heap.size wb W → ∀ x ∈ xs,Calls Tryd.prog g (#[.agg #[.int .i64 x.f0,.int .i64 x.f1]] ++ lb) W fun e W' => e = .returned (.bool (p x)) ∧ Below W.heap.size W W') (hb0 : Below wb.heap.size wb w0) :
 e_E Fence.wide n Tryd.prog 66 #[.pointer (some ⟨gt,0,none⟩),.pointer (some ⟨gi,0,none⟩)] (fun x : Nat => #[.int .i64 (x : Int)]) (Below wb.heap.size) (fun ys => ys = c_m p xs xs.length) xs.length w0:=by
 intro l J W hW hJ hY h0
 refine callsIn_of_wp Tryd.func66 rfl trivial ?_ rfl
 simp only [Tryd.ntmps66,List.size_toArray,List.length_cons,List.length_nil,Nat.reduceAdd,Nat.reduceSub,Array.replicate_succ,Array.replicate_zero,List.push_toArray,List.append_toArray,List.nil_append,List.cons_append]
 have hWb:=hb0.trans (hW.mono hb0.size)
 have hc0 : W.cell? ⟨gt,0,none⟩ = some (.slice A xs.length c):=(a_l ((hWb.block gt (a_1 hgt)).trans hgt) 0).trans rfl
 have HY:=a_b.mk hY
 have HJ:=a_b.mk hJ
 have H0:=a_b.mk h0
 have HP:=a_b.mk hp
 have HR:=a_b.mk hr
 have HGI:=a_b.mk hgi
 have HWB:=a_b.mk hWb
 clear hY hJ h0 hp hr hgt hgi hb0 hW hWb
 gi_wp2
 gi_loopw [9] (fun i wr => ∃ k : Nat,k ≤ xs.length ∧ i = .int .i64 k ∧ a_b (J (c_m p xs k) wr) ∧ a_b (Below wb.heap.size wb wr) ∧ a_b (W.heap.size ≤ wr.heap.size))
  (fun i _ => xs.length - (intOf i).toNat)
 case atStart => exact ⟨0,Nat.zero_le _,rfl,⟨H0.out⟩,⟨HWB.out⟩,⟨Nat.le_refl _⟩⟩
 case round =>
  obtain ⟨k,hk,rfl,HJs,HB,HS⟩:=hrel
  by_cases hlt : k < xs.length
  rotate_left
  ·obtain rfl : k = xs.length:=by omega
   gi_wp2
   go_end0
   exact ⟨⟨_,rfl⟩,_,rfl,HJs.out⟩
  have hltz : (k : Int) < (xs.length : Int):=by omega
  obtain ⟨ad,rfl,e0,e1⟩:=e_G (Kd.a_N HR.out HB.out) (k : Int) (by omega) (by omega)
  simp only [Int.toNat_natCast] at e0 e1
  have hx:=List.getElem_mem hlt
  have hrd : a_u xs (k : Int) = xs[k]:=by unfold a_u;simp [hlt]
  have hst:=e_7 p xs k
  have hln:=d_n p xs k
  rw [← hrd] at hx
  have HX:=a_b.mk hx
  have HST:=a_b.mk hst
  have HLN:=a_b.mk hln
  clear hrd hx hst hln
  have hi0 : wr.cell? ⟨gi,0,none⟩ = some (.func (.func g) #[] lb):=(a_l ((HB.out.block gi (a_1 HGI.out)).trans HGI.out) 0).trans rfl
  have hgl : gi < wr.heap.size:=Nat.lt_of_lt_of_le (a_1 HGI.out) HB.out.size
  have hB1:=a_e (Below.refl wr.heap.size wr) (.cells #[.int .i64 (a_u xs (k : Int)).f0,.int .i64 (a_u xs (k : Int)).f1] 56)
  have hcall:=HP.out _ (HB.out.trans (hB1.mono HB.out.size)) _ HX.out
  have HB1:=a_b.mk hB1
  have hfg : Fence.wide.fn g:=trivial
  have hn1 : 1 ≤ n:=by omega
  clear hB1
  cases hq : p (a_u xs (k : Int)) with
  | false =>
   rw [hq] at hcall
   have HC:=a_b.mk hcall
   have HQ:=a_b.mk hq
   clear hq hcall
   gi_wp2_with (gi_at_fn g;refine (callsIn_wide.2 HC.out).mono ?_;rintro e w' ⟨rfl,hb'⟩;have HB2:=a_b.mk (HB1.out.trans (hb'.mono HB1.out.size));clear hb')
   refine ⟨fun _ h => (by cases h),?_⟩
   gi_wp2
   (try go_bits)
   go_roundw
   case rel => exact ⟨k + 1,by omega,by go_num,⟨by rw [HST.out,HQ.out];simpa using d_o HJ.out HJs.out HB2.out⟩,⟨HB.out.trans (HB2.out.mono HB.out.size)⟩,⟨Nat.le_trans HS.out HB2.out.size⟩⟩
   case measure => simp [intOf];omega
  | true =>
   rw [hq] at hcall
   have HC:=a_b.mk hcall
   have HQ:=a_b.mk hq
   clear hq hcall
   gi_wp2_with (gi_at_fn g;refine (callsIn_wide.2 HC.out).mono ?_;rintro e w' ⟨rfl,hb'⟩;have HB2:=a_b.mk (HB1.out.trans (hb'.mono HB1.out.size));clear hb';obtain ⟨fn,tmps,assign,body,hy,hR⟩:=HY.out (c_m p xs k) k w' (d_o HJ.out HJs.out HB2.out) (Nat.lt_of_le_of_lt HLN.out hlt);have HR2:=a_b.mk hR;clear hR)
   refine HR2.out.mono ?_
   rintro e W3 ⟨rfl,hJ3,hk3⟩
   have HJ3:=a_b.mk hJ3
   have HK3:=a_b.mk hk3
   clear hJ3 hk3
   gi_wp2
   (try go_bits)
   go_roundw
   case rel => exact ⟨k + 1,by omega,by go_num,⟨by rw [HST.out,HQ.out];exact HJ3.out⟩,⟨(HB.out.trans (HB2.out.mono HB.out.size)).trans HK3.out⟩,⟨Nat.le_trans HS.out (Nat.le_trans HB2.out.size HK3.out.size)⟩⟩
   case measure => simp [intOf];omega
set_option maxRecDepth 100000 in
set_option maxHeartbeats 4000000 in
theorem d_s (n : Nat) (hn : 4 ≤ n) (g : Nat) (lb : Array Value) (eg : ∀ args w,(callFunc g args).run Tryd.prog w = .ok (.enter g args) w) (p : S56 → Bool) (A : Option Addr) (c : Nat) (xs : List S56) (hl : xs.length ≤ 1000000) (w : World) (gt gi : Nat)
 (hgt : w.heap[gt]? = some (.cells #[.slice A xs.length c] 24 (0,0))) (hgi : w.heap[gi]? = some (.cells #[.func (.func g) #[] lb] 81 (0,0))) (hr : Kd.C k56 w A xs.length xs)
 (hp : ∀ W,Below w.heap.size w W → ∀ x ∈ xs,Calls Tryd.prog g (#[.agg #[.int .i64 x.f0,.int .i64 x.f1]] ++ lb) W fun e W' => e = .returned (.bool (p x)) ∧ Below W.heap.size W W') :
 CallsIn Fence.wide n Tryd.prog 59 #[.func (.func 66) #[] #[.pointer (some ⟨gt,0,none⟩),.pointer (some ⟨gi,0,none⟩)]] w fun e W' => ∃ v,e = .returned v ∧ W'.ownsRow w.heap.size 3 1 v (c_m p xs xs.length).length ((c_m p xs xs.length).map fun x : Nat => Value.int .i64 (x : Int)) ∧ Below w.heap.size w W':=by
 have h1 : 1 ≤ n:=by omega
 obtain ⟨i0,hi,hz0,hz1,hz2⟩:=info_parts info3
 refine callsIn_of_wp_marks Tryd.func59 rfl trivial ?_ rfl
 simp only [Tryd.ntmps59,List.size_toArray,List.length_cons,List.length_nil,Nat.reduceAdd,Nat.reduceSub,Array.replicate_succ,Array.replicate_zero,List.push_toArray,List.append_toArray,List.nil_append,List.cons_append]
 have hBw : Below w.heap.size w (w.alloc (.cells #[.slice none 0 0] 46)):=(Below.refl _ w).alloc (Nat.le_refl _) _
 have HS:=a_b.mk (d_1 (n - 1) (by omega) g lb eg p A c xs hl w _ gt gi hgt hgi hr hp hBw)
 have HL:=a_b.mk (d_n p xs xs.length)
 clear hgt hgi hr hp
 gi_wp2
 have bO:=Boxed.new w 46 (.slice none 0 0)
 refine c_6 (w0:=w.alloc (.cells #[.slice none 0 0] 46)) rfl h1 (gf:=66) (lb:=#[.pointer (some ⟨gt,0,none⟩),.pointer (some ⟨gi,0,none⟩)]) rfl trivial (enters_of Tryd.func66 (by kernel_rfl) rfl)
  HS.out (fun h k => h.trans k) (fun W l o o' hl ho hc hw => belowK_b (w:=w.alloc (.cells #[.slice none 0 0] 46)) (by simp) W l o o' hl ho hc hw) (Below.refl _ _) (fun _ => rfl)
  (fun pre W => (∃ v,Boxed W w.heap.size 46 v ∧ W.ownsRow w.heap.size 3 1 v pre.length (pre.map fun x : Nat => Value.int .i64 (x : Int)) ∧ True) ∧ Below w.heap.size w W)
  (OwnFrom.and (Own.from (holdsRow_own w.heap.size w.heap.size 46 3 1 (fun pre : List Nat => pre.length) (fun pre => pre.map fun x : Nat => Value.int .i64 (x : Int)) (fun _ _ => True)) _) (ownFrom_below (by omega) (by simp)))
  ⟨⟨_,bO,World.ownsRow_nil _ _ _ _,trivial⟩,hBw⟩
  (fun x => { tmps:=#[.func (.func 66) #[] #[.pointer (some ⟨gt,0,none⟩),.pointer (some ⟨gi,0,none⟩)],undef,.slice none 0 0,.pointer (some ⟨w.heap.size,0,none⟩),.int .i64 (x : Int),.func (.func 66) #[] #[.pointer (some ⟨gt,0,none⟩),.pointer (some ⟨gi,0,none⟩)],.int .i64 (x : Int),undef,undef,undef,undef,undef],defers:=[] }) ?assign ?body ?done
 case assign =>
  intro l x W K hK
  gi_wp2
  exact hK
 case body =>
  rintro l pre x W ⟨⟨v,hv,hrow,_⟩,hB⟩ hlt
  have hc:=hv.cell
  have hmx : 1000000 ≤ maxLen:=by decide
  gi_wp2_with (gi_at_builtin;refine wpListIn_append_own _ rfl _ _ 46 rfl w.heap.size 3 i0 (.int .i64 0) 1 8 Tryd.underlying46 hi hz0 hz1 hz2 rfl (by decide) _ _ _ rfl (hrow.alloc _) ⟨W.heap.size,0,none⟩ 1 1 [.int .i64 (x : Int)] rfl rfl (cell_one_new _ _ _) (by simp [Value.oneCell']) (by omega) (by omega) (by have:=hv.lt;simp;omega) ?_;intro v' w1 hown' hgrow _;obtain ⟨g',cap',rfl⟩:=ownsRow_succ hown';obtain ⟨hv1,hv2,hr2,hk2,hb2⟩:=hv.appended (by decide) hrow (Nat.le_of_lt hv.lt) (Nat.le_refl _) hown' hgrow;have hc1:=hv1.cell;have hf1:=hv1.frozen)
  exact ⟨hk2.from _,hb2,⟨_,hv2,by simpa using hr2,trivial⟩,hB.trans hb2⟩
 case done =>
  rintro D ys W hD rfl ⟨⟨v,hv,hrow,_⟩,hB⟩ hK
  have hc:=hv.cell
  gi_wp2
  refine ⟨by simp,.inl ⟨_,_,rfl,run_takeDeferred hK,?_⟩⟩
  exact ⟨_,results_tmp rfl _ _ _,v,rfl,ownsRow_putObj hrow _ hK rfl,hB.trans (belowK_b (w:=w) (by omega) W D _ _ (by simp at hD;omega) hK rfl rfl)⟩
def okT (xs : List S56) : Bool:=decide (1 ≤ xs.length) && decide (xs.length ≤ 8) && !xs.any e_o
def maskN (l : List Nat) : Nat:=l.foldl (fun m i => m ||| 2 ^ i) 0
def setN (p : S56 → Bool) (xs : List S56) : Nat:=if okT xs = true then maskN (c_m p xs xs.length) else 0
theorem b_W (xs : List S56) : a_H.f xs = some (if okT xs = true then 0 else 160):=by
 unfold a_H.f okT
 by_cases h1 : (xs.length : Int) < 1
 ·rw [if_pos h1,decide_eq_false (show ¬ 1 ≤ xs.length by omega)];rfl
 by_cases h8 : (xs.length : Int) > 8
 ·rw [if_neg h1,if_pos h8,decide_eq_false (show ¬ xs.length ≤ 8 by omega),Bool.and_false];rfl
 rw [if_neg h1,if_neg h8,decide_eq_true (show 1 ≤ xs.length by omega),decide_eq_true (show xs.length ≤ 8 by omega)]
 unfold a_y.f
 rw [if_pos (by omega)]
 cases xs.any e_o <;> rfl
theorem h_t (i : Nat) (h : i < 8) : b_o.f (i : Int) = some ((2 ^ i : Nat) : Int):=by
 have : i = 0 ∨ i = 1 ∨ i = 2 ∨ i = 3 ∨ i = 4 ∨ i = 5 ∨ i = 6 ∨ i = 7:=by omega
 rcases this with rfl|rfl|rfl|rfl|rfl|rfl|rfl|rfl <;> rfl
theorem f_R {m i : Nat} (hm : m < 256) (hi : i < 8) : m ||| 2 ^ i < 256:=Nat.or_lt_two_pow (n:=8) hm (Nat.pow_lt_pow_right (by decide) hi)
theorem h_A (L : List Int) (hL : L.length ≤ 8) : ∀ (suf : List Nat) (pre : List Int) (m k : Nat),L = pre ++ suf.map (fun x : Nat => (x : Int)) → (∀ x ∈ suf,x < 8) → m < 256 → suf.length < k → a_x.l0 k (m : Int) L (L.length : Int) (pre.length : Int) = some (((suf.foldl (fun m i => m ||| 2 ^ i) m : Nat) : Int),0)
 | [],pre,m,0,h,hs,hm,hk => absurd hk (by simp)
 | [],pre,m,k + 1,h,hs,hm,hk => by
  have hlen : pre.length = L.length:=by rw [h];simp
  rw [a_x.l0,if_neg (by omega)];rfl
 | x :: suf,pre,m,0,h,hs,hm,hk => absurd hk (by simp)
 | x :: suf,pre,m,k + 1,h,hs,hm,hk => by
  have hlen : pre.length < L.length:=by rw [h];simp
  have hx:=hs x (by simp)
  have hrd : rd L (pre.length : Int) = (x : Int):=by rw [h];unfold rd;simp
  have hpow : 0 < 2 ^ x:=Nat.two_pow_pos x
  have hpl : 2 ^ x < 256:=Nat.pow_lt_pow_right (n:=8) (by decide) hx
  have hor : Go.bits .or .u32 (m : Int) ((2 ^ x : Nat) : Int) = ((m ||| 2 ^ x : Nat) : Int):=by
   have h1 : ∀ (a : Fin 256) (b : Fin 8),Go.bits .or .u32 (a.val : Int) ((2 ^ b.val : Nat) : Int) = ((a.val ||| 2 ^ b.val : Nat) : Int):=by decide +kernel
   exact h1 ⟨m,hm⟩ ⟨x,hx⟩
  have hw : wrap64 ((pre.length : Int) + 1) = ((pre ++ [(x : Int)]).length : Int):=by rw [List.length_append];unfold wrap64;simp;omega
  have ih:=h_A L hL suf (pre ++ [(x : Int)]) (m ||| 2 ^ x) k (by rw [h];simp) (fun y hy => hs y (by simp [hy])) (f_R hm hx) (by simp at hk;omega)
  rw [a_x.l0,if_pos (by omega),if_pos (by omega),if_pos (by omega),hrd,h_t x hx,Option.bind_some,if_neg (by omega),hor,hw,ih]
  rfl
theorem of_f (l : List Nat) (hl : l.length ≤ 8) (h : ∀ x ∈ l,x < 8) : a_x.f 9 (l.map fun x : Nat => (x : Int)) = some (((maskN l : Nat) : Int),0):=by
 unfold a_x.f
 exact h_A _ (by simpa using hl) l [] 0 9 rfl h (by decide) (by omega)
theorem g_m (l : List Nat) (hl : l.length ≤ 8) (h : ∀ x ∈ l,x < 8) (L : List Int) (hL : L = l.map fun x : Nat => (x : Int)) (A : Option Addr) (c : Nat) (W : World) (h1 : Kd.C (Kd.int .i64) W A L.length L) (h2 : L.length ≤ c) :
 Calls Tryd.prog 32 #[.slice A L.length c] W fun e w' => e = .returned (.tuple #[.int .u32 ((maskN l : Nat) : Int),.int .i64 0]) ∧ a_V W w' :=
 a_x.calls 9 A c L _ _ W h1 h2 (by rw [hL];exact of_f l hl h)
theorem e_q {p : S56 → Bool} {xs : List S56} {k i : Nat} (h : i ∈ c_m p xs k) : i < k:=by unfold c_m at h;simpa using (List.mem_filter.mp h).1
set_option maxRecDepth 100000 in
set_option maxHeartbeats 4000000 in
theorem c_0 (g : Nat) (lb : Array Value) (eg : ∀ args w,(callFunc g args).run Tryd.prog w = .ok (.enter g args) w) (p : S56 → Bool) (A : Option Addr) (c : Nat) (xs : List S56) (hl : xs.length ≤ 1000000) (w : World)
 (hr : Kd.C k56 w A xs.length xs) (hc : xs.length ≤ c)
 (hp : ∀ W,Below w.heap.size w W → ∀ x ∈ xs,Calls Tryd.prog g (#[.agg #[.int .i64 x.f0,.int .i64 x.f1]] ++ lb) W fun e W' => e = .returned (.bool (p x)) ∧ Below W.heap.size W W') :
 Calls Tryd.prog 48 #[.agg #[.slice A xs.length c],.func (.func g) #[] lb] w fun e w' => e = .returned (.int .u32 ((setN p xs : Nat) : Int)) ∧ Below w.heap.size w w':=by
 have hbw:=a_e (Below.refl w.heap.size w) (.cells #[.slice A xs.length c] 24)
 have HK:=a_b.mk (b_W xs)
 have HR:=a_b.mk hr
 have HP:=a_b.mk hp
 have HBW:=a_b.mk hbw
 clear hr hp hbw
 refine (callsIn_wide (n:=8)).1 ?_
 have hf1 : Fence.wide.fn 28:=trivial
 have hf2 : Fence.wide.fn 60:=trivial
 have hf3 : Fence.wide.fn 59:=trivial
 have hf4 : Fence.wide.fn 32:=trivial
 refine callsIn_of_wp Tryd.func48 rfl trivial ?_ rfl
 simp only [Tryd.ntmps48,List.size_toArray,List.length_cons,List.length_nil,Nat.reduceAdd,Nat.reduceSub,Array.replicate_succ,Array.replicate_zero,List.push_toArray,List.append_toArray,List.nil_append,List.cons_append]
 unfold setN
 cases hok : okT xs with
 | false =>
  have HOK:=a_b.mk hok
  clear hok
  gi_wp2_with (gi_at_call 28;refine (callsIn_wide.2 (a_H.calls _ _ xs _ _ (Kd.a_N HR.out HBW.out) hc HK.out)).mono ?_;rintro e w' ⟨rfl,hb⟩;have HB1:=a_b.mk (HBW.out.trans (hb.mono HBW.out.size));clear hb;rw [HOK.out])
  go_ret
  exact ⟨rfl,HB1.out⟩
 | true =>
  have HOK:=a_b.mk hok
  have hl8 : xs.length ≤ 8:=by unfold okT at hok;simp at hok;omega
  obtain ⟨L,hL⟩ : ∃ L : List Int,L = (c_m p xs xs.length).map fun x : Nat => (x : Int):=⟨_,rfl⟩
  have HOF:=a_b.mk (g_m (c_m p xs xs.length) (Nat.le_trans (d_n _ _ _) hl8) (fun x hx => Nat.lt_of_lt_of_le (e_q hx) hl8) L hL)
  have HL:=a_b.mk hL
  clear hL
  have hbx:=c_g w (.cells #[.slice A xs.length c] 24)
  have HBX:=a_b.mk hbx
  clear hok hbx
  gi_wp2_with (first
   | (gi_at_call 28;refine (callsIn_wide.2 (a_H.calls _ _ xs _ _ (Kd.a_N HR.out HBW.out) hc HK.out)).mono ?_;rintro e w1 ⟨rfl,hb⟩;have HB1:=a_b.mk (HBW.out.trans (hb.mono HBW.out.size));have hx0 : w1.cell? ⟨w.heap.size,0,none⟩ = some (.slice A xs.length c):=(a_l (a_k HBX.out hb) 0).trans rfl;clear hb;rw [HOK.out])
   | (gi_at_call 60;refine (callsIn_wide.2 (f_0.calls g lb A xs.length c _)).mono ?_;rintro e w2 ⟨rfl,hw2⟩;have HB2:=a_b.mk (a_e (a_e HB1.out (.cells #[.slice A xs.length c] 24)) (.cells #[.func (.func g) #[] lb] 81));have hgt:=a_j (c_g w1 (.cells #[.slice A xs.length c] 24)) (.cells #[.func (.func g) #[] lb] 81);have hgi:=c_g (w1.alloc (.cells #[.slice A xs.length c] 24)) (.cells #[.func (.func g) #[] lb] 81);rw [World.size_alloc] at hgi;rw [← hw2] at hgt hgi HB2;have HGT:=a_b.mk hgt;have HGI:=a_b.mk hgi;clear hgt hgi hw2)
   | (gi_at_call 59;refine (d_s 7 (by omega) g lb eg p A c xs hl _ _ _ HGT.out HGI.out (Kd.a_N HR.out HB2.out) (fun W hW x hx => HP.out W (HB2.out.trans (hW.mono HB2.out.size)) x hx)).mono ?_;rintro e w3 ⟨v,rfl,hrow,hb⟩;have hR:=Kd.d_P (xs:=L) (enc:=Value.int .i64) (h1:=fun _ => rfl) (by rw [HL.out];simpa [encs,Function.comp_def] using hrow) (fun _ _ => trivial);obtain ⟨A3,c3,rfl,hc3,hC3⟩:=Kd.d_a hR;have HC3:=a_b.mk hC3;have HB3:=a_b.mk (HB2.out.trans (hb.mono HB2.out.size));clear hrow hb hR hC3)
   | (gi_at_call 32;refine (callsIn_wide.2 (HOF.out _ _ _ HC3.out hc3)).mono ?_;rintro e w4 ⟨rfl,hd⟩;have HB4:=a_b.mk (HB3.out.trans (hd.below.mono HB3.out.size));clear hd))
  go_ret
  exact ⟨rfl,HB4.out⟩
set_option maxHeartbeats 1000000 in
theorem f_Z.calls (x : S56) (w : World) :
 Calls Tryd.prog 50 (#[.agg #[.int .i64 x.f0,.int .i64 x.f1]] ++ #[]) w fun e w' => e = .returned (.bool true) ∧ Below w.heap.size w w':=by
 go_enter Tryd.func50,Tryd.ntmps50
 go_wp2
 go_ret
 exact ⟨rfl,(Below.refl _ _).alloc (Nat.le_refl _) _⟩
set_option maxHeartbeats 1000000 in
theorem e_r.calls (g : Nat) (x : S56) (a1 : Int) (w : World) (hb : w.heap[g]? = some (.cells #[.int .i64 a1] 3 (0,0))) :
 Calls Tryd.prog 49 (#[.agg #[.int .i64 x.f0,.int .i64 x.f1]] ++ #[.pointer (some ⟨g,0,none⟩)]) w fun e w' => e = .returned (.bool (x.f0 == a1)) ∧ Below w.heap.size w w':=by
 have hc:=(a_l hb 0).trans rfl
 have hlt:=a_1 hb
 clear hb
 go_enter Tryd.func49,Tryd.ntmps49
 go_wp2
 go_ret
 exact ⟨rfl,(Below.refl _ _).alloc (Nat.le_refl _) _⟩
def b_r.f (l0 : List S56) : Option Int:=if l0.length ≤ 1000000 then some ((setN (fun _ => true) l0 : Nat) : Int) else none
theorem b_r.calls (A0 : Option Addr) (c0 : Nat) (l0 : List S56) (r : Int) (w : World) (hr0 : Kd.C k56 w A0 l0.length l0) (hc0 : l0.length ≤ c0) (h : b_r.f l0 = some r) :
 Calls Tryd.prog 48 #[.agg #[.slice A0 l0.length c0],.func (.func 50) #[] #[]] w fun e w' => e = .returned (.int .u32 r) ∧ Below w.heap.size w w':=by
 unfold b_r.f at h
 split at h
 case isFalse => cases h
 case isTrue hl =>
 obtain rfl:=Option.some.inj h
 exact c_0 50 _ (c_M Tryd.func50 (by kernel_rfl) rfl) _ A0 c0 l0 hl w hr0 hc0 (fun W hW x _ => f_Z.calls x W)
def b_e.f (l0 : List S56) (a : Int) : Option Int:=if l0.length ≤ 1000000 then some ((setN (fun s => s.f0 == a) l0 : Nat) : Int) else none
theorem b_e.calls (A0 : Option Addr) (c0 : Nat) (l0 : List S56) (g : Nat) (a : Int) (r : Int) (w : World) (hr0 : Kd.C k56 w A0 l0.length l0) (hc0 : l0.length ≤ c0) (hb : w.heap[g]? = some (.cells #[.int .i64 a] 3 (0,0))) (h : b_e.f l0 a = some r) :
 Calls Tryd.prog 48 #[.agg #[.slice A0 l0.length c0],.func (.func 49) #[] #[.pointer (some ⟨g,0,none⟩)]] w fun e w' => e = .returned (.int .u32 r) ∧ Below w.heap.size w w':=by
 unfold b_e.f at h
 split at h
 case isFalse => cases h
 case isTrue hl =>
 obtain rfl:=Option.some.inj h
 exact c_0 49 _ (c_M Tryd.func49 (by kernel_rfl) rfl) _ A0 c0 l0 hl w hr0 hc0 (fun W hW x _ => e_r.calls g x a W ((hW.block _ (a_1 hb)).trans hb))
end
end Go.Proofs.YtcpfcehfgenljaaDoor.Q
end
section
namespace Go.Proofs.YtcpfcehfgenljaaDoor.Q
open Go.RowKit Go.Proofs.YtcpfcehfgenljaaDoorW.PrintWords Go.Proofs.YtcpfcehfgenljaaDoorW.PrintLast Go.Proofs.YtcpfcehfgenljaaDoorW.PrintMore
set_option linter.unusedVariables false
set_option linter.unusedSimpArgs false
def b_f.f (l0_0 : List (S56)) : Option (Int):=(b_r.f l0_0).bind fun t118 => (some t118)
set_option maxHeartbeats 8000000 in
set_option maxRecDepth 100000 in
theorem b_f.calls (A0_0 : Option Addr) (c0_0 : Nat) (l0_0 : List (S56)) (r : Int) (w : World) (hr0_0 : Kd.C k56 w A0_0 l0_0.length l0_0) (hc0_0 : l0_0.length ≤ c0_0) (h : b_f.f l0_0 = some r) :
 Calls Tryd.prog 30 #[.agg #[.slice A0_0 l0_0.length c0_0]] w fun e w' => e = .returned (.int .u32 r) ∧ Below w.heap.size w w':=by
 have hu24:=Tryd.underlying24
 have b_M:=a_b.mk hr0_0
 have b_S:=a_b.mk hc0_0
 clear hr0_0 hc0_0
 have HB:=a_b.mk (Below.refl w.heap.size w)
 have H : ((b_r.f l0_0).bind fun t118 => (some t118)) = some r:=h
 clear h
 replace H:=Option.bind_eq_some_iff.mp H
 obtain ⟨t118,A20,H⟩:=H
 replace H : (some t118) = some r:=H
 have A2:=a_b.mk A20
 clear A20
 obtain rfl:=Option.some.inj H
 go_enter Tryd.func30,Tryd.ntmps30
 go_wp2_with (first|((with_reducible refine a_D (N:=1) rfl ?_);refine a_A ?hg (N:=1) ?hd (cs:=#[.slice A0_0 l0_0.length c0_0]) (t:=24) ?hr ?_;(case hd => rfl);(case hg => rfl);(case hr => first|(go_simp;done)|(go_simp;rfl));intro g_L hg w3 hbox hb;have f_3:=a_b.mk (hbox);have j_z:=a_b.mk ((by rw [hg];exact (a_g (lup_ HB.out)) : w.heap.size ≤ g_L));have h_f:=a_b.mk ((by rw [hg];exact (a_g (lup_ HB.out)) : w.heap.size ≤ g_L));replace HB:=a_b.mk (a_h (lup_ HB.out) hb);clear hb hbox hg;have g_x : w3.cell? ⟨g_L,0,none⟩ = some (.slice A0_0 l0_0.length c0_0):=(a_l f_3.out 0).trans rfl;have g_z:=a_i f_3.out 0)|((with_reducible refine a_s (f:=48) rfl ?_);refine a_O (some 4) rfl rfl Tryd.func48 (by kernel_rfl) rfl #[.agg #[.slice A0_0 l0_0.length c0_0],.func (.func 50) #[] #[]] rfl (by (try simp only [List.map_toArray,List.map_cons,List.map_nil]);first|done|rfl|(simp only [List.length_drop,List.length_take];rfl)) ?_;(with_reducible refine (b_r.calls _ _ l0_0  t118 _ ?side1 ?side2 A2.out).mono ?_);(case side1 => repeat (first|exact (Kd.a_N b_M.out HB.out)|(with_reducible refine Kd.a_I ?_ _)|(with_reducible refine Kd.a_J ?_ _)|(with_reducible refine Kd.a_X ?_)));(case side2 => exact b_S.out);rintro e w5 ⟨rfl,hb⟩;refine ⟨_,rfl,?_⟩;replace f_3:=a_b.mk (a_k (bup_ f_3.out) hb);replace HB:=a_b.mk (a_h (by repeat (first|(with_reducible first|exact HB.out|apply a_e|apply a_c|apply a_f|refine a_d ?_ h_f.out)|exact HB.out)) hb);(try clear hb);(try clear hb2);(try clear hk);(try clear hi)))
 go_ret
 exact ⟨by first|rfl|(simp [a_p,a_q] <;> rfl)|(simp [*, a_p,a_q] <;> rfl),by repeat (first|(with_reducible first|exact HB.out|apply a_e|apply a_c|apply a_f|refine a_d ?_ h_f.out)|exact HB.out)⟩
end Go.Proofs.YtcpfcehfgenljaaDoor.Q
end
section
namespace Go.Proofs.YtcpfcehfgenljaaDoor.Q
open Go.RowKit Go.Proofs.YtcpfcehfgenljaaDoorW.PrintWords Go.Proofs.YtcpfcehfgenljaaDoorW.PrintLast Go.Proofs.YtcpfcehfgenljaaDoorW.PrintMore
set_option linter.unusedVariables false
set_option linter.unusedSimpArgs false
def b_q.f (a0 : Int) : Option (Int):=if (Go.bits .andNot .u32 a0 255) = 0 then (some 0) else (some 140)
set_option maxHeartbeats 8000000 in
set_option maxRecDepth 100000 in
theorem b_q.calls (a0 : Int) (r : Int) (w : World) (h : b_q.f a0 = some r) :
 Calls Tryd.prog 41 #[.int .u32 a0] w fun e w' => e = .returned (.int .i64 r) ∧ a_V w w':=by
 have H : (if (Go.bits .andNot .u32 a0 255) = 0 then (some 0) else (some 140)) = some r:=h
 clear h
 by_cases c2 : (Go.bits .andNot .u32 a0 255) = 0
 ·rw [if_pos c2] at H
  have c2b0 : ((Go.bits .andNot .u32 a0 255) == 0) = true:=beq_iff_eq.mpr c2
  have c2b1 : ((Go.bits .andNot .u32 a0 255) != 0) = false:=bne_eq_false_iff_eq.mpr c2
  clear c2
  obtain rfl:=Option.some.inj H
  go_enter Tryd.func41,Tryd.ntmps41
  go_wp2
  go_ret
  exact ⟨by first|rfl|(simp;done)|(simp [*];done),by repeat (first|exact a_V.refl _|apply a_V.step)⟩
 rw [if_neg c2] at H
 have c2b0 : ((Go.bits .andNot .u32 a0 255) == 0) = false:=beq_eq_false_iff_ne.mpr c2
 have c2b1 : ((Go.bits .andNot .u32 a0 255) != 0) = true:=bne_iff_ne.mpr c2
 obtain rfl:=Option.some.inj H
 go_enter Tryd.func41,Tryd.ntmps41
 go_wp2
 go_ret
 exact ⟨by first|rfl|(simp;done)|(simp [*];done),by repeat (first|exact a_V.refl _|apply a_V.step)⟩
end Go.Proofs.YtcpfcehfgenljaaDoor.Q
end
section
namespace Go.Proofs.YtcpfcehfgenljaaDoor.Q
open Go.RowKit Go.Proofs.YtcpfcehfgenljaaDoorW.PrintWords Go.Proofs.YtcpfcehfgenljaaDoorW.PrintLast Go.Proofs.YtcpfcehfgenljaaDoorW.PrintMore
set_option linter.unusedVariables false
set_option linter.unusedSimpArgs false
set_option maxHeartbeats 1000000 in
theorem f_1 (x k idx : Nat) (w : World) (hx0 : ((x : Int) == 0) = false)
 (key : bits BinOp.and IntKind.u32 (x : Int) (-(x : Int) % 4294967296) * 125613361 % 4294967296 / 134217728 = (idx : Int))
 (hi : idx < 32) (hk : k < 32) (hcell : w.cell? ⟨0,idx,none⟩ = some (.int .u8 k)) :
 Calls Tryd.prog 63 #[.int .u32 x] w fun e w' => e = .returned (.int .i64 k) ∧ w' = w:=by
 go_enter Tryd.func63,Tryd.ntmps63
 go_wp2_with (simp only [key])
 go_ret
 exact ⟨rfl,rfl⟩
theorem e_8 (x : Nat) (hx0 : x ≠ 0) (hx : x < 4294967296) (w : World) (ht : b_p w) :
 Calls Tryd.prog 63 #[.int .u32 x] w fun e w' => e = .returned (.int .i64 ((Lib.ctz 32 x : Nat) : Int)) ∧ w' = w:=by
 obtain ⟨hlow,hk⟩:=Lib.lowest_bit 32 x hx0 hx
 obtain ⟨hi,htab⟩:=Lib.deBruijn32_at _ hk
 have hcell:=ht _ hi
 rw [htab] at hcell
 exact f_1 x _ _ w (by simp;omega) (tz32_key x _ hx hx0 hlow) hi hk hcell
end Go.Proofs.YtcpfcehfgenljaaDoor.Q
end
