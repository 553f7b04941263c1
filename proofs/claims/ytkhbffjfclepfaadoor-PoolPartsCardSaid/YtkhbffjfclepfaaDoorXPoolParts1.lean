/- Part 2 of 6 of what the row of PoolParts stands on: contracts over the given program's functions, the plain law, the row; no condition beyond those that each theorem states. -/
import Derived.Test.YtkhbffjfclepfaaDoorXPoolParts0
import Derived.Test.YtkhbffjfclepfaaDoorProg
import Derived.Shelf.Abstract
import Derived.Laws.EntriesVeiled
import Derived.WalkSpells
import Derived.Shelf.Spec.TrailingZeros
import Derived.Test.YtkhbffjfclepfaaDoorRows
import Derived.Deep.Slices
import Derived.ChangeArms
import Derived.DataReads
import Derived.ProofKit
import Derived.OpenShut
import Derived.ChangeOld
import Derived.SizedLaws
section
namespace Go.Proofs.YtkhbffjfclepfaaDoor
open Go.RowKit Go.Proofs.YtkhbffjfclepfaaDoorW.PrintWords Go.Proofs.YtkhbffjfclepfaaDoorW.PrintLast Go.Proofs.YtkhbffjfclepfaaDoorW.PrintMore
def Up_ (w W : World) : Prop:=Below w.heap.size w W
instance (priority:=low) up0_ (w : World) : Nonempty (Up_ w w):=⟨Below.refl _ _⟩
instance upA_ (w W : World) (o : Obj) [h : Nonempty (Up_ w W)] : Nonempty (Up_ w (W.alloc o)):=h.elim fun h => ⟨a_e h o⟩
instance upN_ (w W : World) (n : Nat) [h : Nonempty (Up_ w W)] : Nonempty (Up_ w (W.drewN n)):=h.elim fun h => ⟨a_c h n⟩
instance upD_ (w W : World) [h : Nonempty (Up_ w W)] : Nonempty (Up_ w W.drew):=h.elim fun h => ⟨c_Z h⟩
theorem bup_ {w W : World} {g : Nat} {o : Obj} (h : w.heap[g]? = some o) [u : Nonempty (Up_ w W)] : W.heap[g]? = some o:=u.elim fun b => a_b h b
theorem rup_ {α : Type} {d : Kd α} {e : Nat} {w W : World} {base : Nat} {ok : Nat → Prop} {v : Value} {xs : List α} (h : d.R e w base ok v xs) [u : Nonempty (Up_ w W)] : d.R e W base ok v xs:=u.elim fun b => Kd.a_G h b
theorem lup_ {w0 w W : World} (h : Below w0.heap.size w0 w) [u : Nonempty (Up_ w W)] : Below w0.heap.size w0 W:=u.elim fun b => a_i h b
abbrev T_ : Bool:=true
abbrev F_ : Bool:=false
theorem sa_ {α : Type} (l : List α) (i : Nat) (a : α) : l.toArray.setIfInBounds i a = (l.set i a).toArray:=List.setIfInBounds_toArray l i a
theorem sb_ {α : Type} (x : α) (l : List α) (a : α) : (x :: l).set 0 a = a :: l:=rfl
theorem sc_ {α : Type} (x : α) (l : List α) (i : Nat) (a : α) : (x :: l).set (i + 1) a = x :: l.set i a:=rfl

end Go.Proofs.YtkhbffjfclepfaaDoor
end
section
namespace Go.Proofs.YtkhbffjfclepfaaDoor.Q
open Go.RowKit Go.Proofs.YtkhbffjfclepfaaDoorW.PrintWords Go.Proofs.YtkhbffjfclepfaaDoorW.PrintLast Go.Proofs.YtkhbffjfclepfaaDoorW.PrintMore
set_option linter.unusedVariables false
set_option linter.unusedSimpArgs false
def errW : Option Int → Value
 | none => .nilIface
 | some c => .iface 0 (.int .i64 c)
theorem a_y : errW none = .nilIface:=rfl
theorem a_z (c : Int) : errW (some c) = .iface 0 (.int .i64 c):=rfl
theorem info3 : (Tryd.prog.info? 3).map (fun i => (i.zero,i.size,i.bytes)) = some (some (.int .i64 0),1,8):=by kernel_rfl
theorem f_2 : (Tryd.prog.info? 32).map (fun i => (i.zero,i.size,i.bytes)) = some (some (.int .u32 0),1,4):=by kernel_rfl
structure S35 where
 f0 : Int
 f1 : Int
 f2 : Int
 f3 : Int
 f4 : Int
def z35 : S35:=⟨(0 : Int),(0 : Int),(0 : Int),(0 : Int),(0 : Int)⟩
def k35 : Kd S35:=Kd.iso (Kd.pair (Kd.int .i64) (Kd.pair (Kd.int .i64) (Kd.pair (Kd.int .i64) (Kd.pair (Kd.int .i64) (Kd.int .u32))))) (fun x : S35 => (x.f0,x.f1,x.f2,x.f3,x.f4))
theorem f_Y {w : World} {x : S35} {cs : List Value} (h : k35.K w x cs) : cs = [.int .i64 x.f0,.int .i64 x.f1,.int .i64 x.f2,.int .i64 x.f3,.int .u32 x.f4]:=by
 obtain ⟨_,_,rfl,rfl,⟨_,_,rfl,rfl,⟨_,_,rfl,rfl,⟨_,_,rfl,rfl,rfl⟩⟩⟩⟩:=h
 exact rfl
def a_s (xs : List S35) (i : Int) : S35:=xs.getD i.toNat z35
theorem e_d {w : World} {A : Option Addr} {n : Nat} {xs : List S35} (h : Kd.C k35 w A n xs) (i : Int) (h0 : 0 ≤ i) (h1 : i < n) : ∃ ad , A = some ad ∧ w.cell? (ad.add (i.toNat * 5)) = some (.int .i64 (a_s xs i).f0) ∧ w.cell? ⟨(ad.add (i.toNat * 5)).block,(ad.add (i.toNat * 5)).off + 1,none⟩ = some (.int .i64 (a_s xs i).f1) ∧ w.cell? ⟨(ad.add (i.toNat * 5)).block,(ad.add (i.toNat * 5)).off + 2,none⟩ = some (.int .i64 (a_s xs i).f2) ∧ w.cell? ⟨(ad.add (i.toNat * 5)).block,(ad.add (i.toNat * 5)).off + 3,none⟩ = some (.int .i64 (a_s xs i).f3) ∧ w.cell? ⟨(ad.add (i.toNat * 5)).block,(ad.add (i.toNat * 5)).off + 4,none⟩ = some (.int .u32 (a_s xs i).f4):=by
 obtain ⟨ad,c,e,_,hK,hc0⟩:=Kd.h_u h z35 i h0 h1
 have hc : ∀ j u,c[j]? = some u → w.cell? (ad.add (i.toNat * 5 + j)) = some u:=hc0
 obtain rfl:=f_Y hK
 exact ⟨ad,e,hc 0 _ rfl,by rw [← c_Q _ _ 1 (by omega)];exact hc 1 _ rfl,by rw [← c_Q _ _ 2 (by omega)];exact hc 2 _ rfl,by rw [← c_Q _ _ 3 (by omega)];exact hc 3 _ rfl,by rw [← c_Q _ _ 4 (by omega)];exact hc 4 _ rfl⟩
def idxOf {α : Type} (p : α → Bool) (xs : List α) : Int:=match xs.findIdx? p with|some i => i|none => -1
theorem idxOf_hit {α : Type} {p : α → Bool} {xs : List α} {k : Nat} (hk : k < xs.length) (h : p xs[k] = true) (hb : ∀ j (hj : j < k),p (xs[j]'(by omega)) = false) : idxOf p xs = k:=by
 unfold idxOf
 have : xs.findIdx? p = some k:=by
  rw [List.findIdx?_eq_some_iff_getElem]
  exact ⟨hk,h,fun j hj => by simp [hb j hj]⟩
 rw [this]
theorem idxOf_miss {α : Type} {p : α → Bool} {xs : List α} (hb : ∀ j (hj : j < xs.length),p xs[j] = false) : idxOf p xs = -1:=by
 unfold idxOf
 have : xs.findIdx? p = none:=by
  rw [List.findIdx?_eq_none_iff]
  intro x hx
  obtain ⟨j,hj,rfl⟩:=List.getElem_of_mem hx
  exact hb j hj
 rw [this]
theorem d_5 {α : Type} (p : α → Bool) (xs : List α) : decide (0 ≤ idxOf p xs) = xs.any p:=by
 unfold idxOf
 cases h : xs.findIdx? p with
 | none =>
  rw [List.findIdx?_eq_none_iff] at h
  have : xs.any p = false:=List.any_eq_false.2 fun x hx => by simp [h x hx]
  rw [this];rfl
 | some i =>
  rw [List.findIdx?_eq_some_iff_getElem] at h
  obtain ⟨hi,hp,_⟩:=h
  have : xs.any p = true:=List.any_eq_true.2 ⟨_,List.getElem_mem hi,hp⟩
  rw [this];simp
theorem b_V {w : World} {g j k B : Nat} {u : Value} (h : k < B) (hg : B ≤ g) : (w.setCell ⟨g,j,none⟩ u).heap[k]? = w.heap[k]?:=Below.heap_setCell w ⟨g,j,none⟩ u k (by show k ≠ g;omega)
def b_Q (w : World) : Prop:=TabAt 0 Lib.deBruijn32tab w
theorem b_Q.below {w W : World} (h : b_Q w) (hb : Below w.heap.size w W) : b_Q W:=fun j hj => (hb.cell (p:=⟨0,j,none⟩) (World.block_lt_of_cell? w _ (h j hj))).trans (h j hj)
def b_1 (m : Nat) : List Nat:=(List.range 8).filter fun i => m.testBit i
theorem e_U : ∀ m,m < 256 → m ≠ 0 → b_1 m = Lib.ctz 32 m :: b_1 (m &&& (m - 1)):=by decide +kernel
theorem e_c (m : Nat) : (b_1 m).length ≤ 8:=by unfold b_1;exact Nat.le_trans (List.length_filter_le _ _) (by simp)
theorem e_N : b_1 0 = []:=by decide
end Go.Proofs.YtkhbffjfclepfaaDoor.Q
end
section
namespace Go.Proofs.YtkhbffjfclepfaaDoor.Q
open Go.RowKit Go.Proofs.YtkhbffjfclepfaaDoorW.PrintWords Go.Proofs.YtkhbffjfclepfaaDoorW.PrintLast Go.Proofs.YtkhbffjfclepfaaDoorW.PrintMore
open Go.ChangeShapes Go.WideShapes Go.ChangeAt
set_option linter.unusedVariables false
set_option linter.unusedSimpArgs false
structure c_G (P : Program) (t : TypeId) {α : Type} (d : Kd α) (wf : α → Prop) : Prop where
 cells : P.cellsOf t = d.sz
 open_ : ∀ {H : Type} {enc : TypeId × Value → H} {w : World} {base : Nat} {spare : Nat → Bool} {held : Bool} {fuel : Nat} {cs : List Value} {x : DataW H × List MemPlace},
  DataW.trod enc P w base spare held fuel t cs = some x → ∃ v,d.K w v cs ∧ wf v
theorem c_G.int {P : Program} {t : TypeId} {k : IntKind} (ht : P.underlying t = some (.int k)) (hc : P.cellsOf t = 1) : c_G P t (Kd.int k) (fun n => (Lit.int k n).wf = true) :=
 ⟨hc,fun {H enc w base spare held fuel cs x} h => by
  cases fuel with
  | zero => simp [DataW.trod] at h
  | succ n =>
   unfold DataW.trod at h
   rw [ht] at h
   split at h <;> simp_all
   exact ⟨_,rfl,h.1.2⟩⟩
theorem c_G.bool {P : Program} {t : TypeId} (ht : P.underlying t = some .bool) (hc : P.cellsOf t = 1) : c_G P t Kd.bool (fun _ => True) :=
 ⟨hc,fun {H enc w base spare held fuel cs x} h => by
  cases fuel with
  | zero => simp [DataW.trod] at h
  | succ n =>
   unfold DataW.trod at h
   rw [ht] at h
   split at h
   all_goals first|exact ⟨_,rfl,trivial⟩|simp_all⟩
theorem e_L {α : Type} [Inhabited α] (m : Nat) (p : Nat → α → Prop) (h : ∀ i,i < m → ∃ v,p i v) : ∃ f : Nat → α, ∀ i,i < m → p i (f i):=by
 classical
 exact ⟨fun i => if hi : ∃ v,p i v then hi.choose else default,fun i hi => by
  have hx:=h i hi
  simp only [hx,dif_pos]
  exact hx.choose_spec⟩
theorem c_G.slice {P : Program} {t e : TypeId} {α : Type} {d : Kd α} {wf : α → Prop} [Inhabited α] (ht : P.underlying t = some (.slice e)) (hc : P.cellsOf t = 1) (he : c_G P e d wf) :
 c_G P t (Kd.slice e d) (fun l => l.length ≤ maxLen ∧ ∀ x ∈ l,wf x) :=
 ⟨hc,fun {H enc w base spare held fuel cs x} h => by
  rcases Go.Deep.open_slice ht h with ⟨rfl,_⟩ | ⟨a,len,cap,m,n,D,Pl,rfl,hb,hl,hm,hmm,_,hx⟩
  ·exact ⟨[],⟨none,0,rfl,Nat.le_refl _,⟨rfl,by simp,fun h => absurd h (Nat.lt_irrefl 0)⟩⟩,by simp,by simp⟩
  ·have hlm : len ≤ m:=by rw [hmm];split <;> omega
   obtain ⟨f,hf⟩:=e_L (α:=α) m (fun i v => ∃ cs',w.cells? base (a.add (i * P.cellsOf e)) (P.cellsOf e) = some cs' ∧ d.K w v cs' ∧ wf v) (fun i hi => by
    obtain ⟨cs',h1,h2⟩:=hx i hi
    obtain ⟨v,h3,h4⟩:=he.open_ h2
    exact ⟨v,cs',h1,h3,h4⟩)
   have hml : maxLen = 9223372036854775807:=rfl
   refine ⟨(List.range len).map f,⟨some a,cap,by simp,by simpa using hl,⟨by simp,by simp;omega,fun _ => ⟨a,rfl,fun j p hj => ?_⟩⟩⟩,by simp;omega,fun v hv => ?_⟩
   ·rw [List.getElem?_map] at hj
    obtain ⟨i,hi,rfl⟩:=Option.map_eq_some_iff.1 hj
    have hij : j < len:=by
     rcases Nat.lt_or_ge j len with h|h
     ·exact h
     ·rw [List.getElem?_eq_none (by simpa using h)] at hi;cases hi
    rw [List.getElem?_range hij] at hi
    injection hi with hi
    subst hi
    obtain ⟨cs',h1,h2,h3⟩:=hf j (by omega)
    obtain ⟨_,h4,h5⟩:=World.cells?_some h1
    rw [he.cells] at h4 h5 h1
    refine ⟨cs',h4,h2,fun i u hu => ?_⟩
    have hil : i < d.sz:=by
     rw [← h4]
     exact (List.getElem?_eq_some_iff.1 hu).1
    rw [show j * d.sz + i = j * d.sz + i from rfl, ← add_add,h5 i hil]
    exact hu
   ·obtain ⟨j,hj,rfl⟩:=List.mem_map.1 hv
    obtain ⟨_,_,_,h3⟩:=hf j (by have:=List.mem_range.1 hj;omega)
    exact h3⟩
theorem b_R {P : Program} {H : Type} {enc : TypeId × Value → H} {w : World} {base : Nat} {spare : Nat → Bool} {held : Bool} {fuel : Nat} {t : TypeId} {cs : List Value} {x : DataW H × List MemPlace} {fs : Array Field}
 (ht : P.underlying t = some (.struct fs)) (h : DataW.trod enc P w base spare held fuel t cs = some x) (i : Nat) {f : Field} (hf : fs[i]? = some f) {α : Type} {d : Kd α} {wf : α → Prop} (ho : c_G P f.type d wf) :
 ∃ v,d.K w v ((cs.drop f.offset).take d.sz) ∧ wf v:=by
 obtain ⟨xs,n,_,_,_,hl,hx⟩:=DataW.trod_struct ht h
 have h1:=hx i f hf
 have hi : i < xs.length:=by rw [hl];exact (Array.getElem?_eq_some_iff.1 hf).1
 rw [List.getElem?_eq_getElem hi,ho.cells] at h1
 exact ho.open_ h1
theorem d_7 {P : Program} {H : Type} {enc : TypeId × Value → H} {w : World} {base : Nat} {spare : Nat → Bool} {held : Bool} {fuel : Nat} {t : TypeId} {cs : List Value} {x : DataW H × List MemPlace} {fs : Array Field}
 (ht : P.underlying t = some (.struct fs)) (h : DataW.trod enc P w base spare held fuel t cs = some x) : cs.length = P.cellsOf t:=by
 obtain ⟨xs,n,_,_,hl,_⟩:=DataW.trod_struct ht h
 exact hl
theorem b_m {α : Type} {cs : List α} {n : Nat} (h : cs.length = n + 1) : ∃ a l,cs = a :: l ∧ l.length = n:=by
 cases cs with
 | nil => simp at h
 | cons a l => exact ⟨a,l,rfl,by simpa using h⟩
theorem own : ownKnob Tryd.prog.godebug = none:=by kernel_rfl
theorem laidOut : laidOutB Tryd.prog = true:=by kernel_rfl
instance : Inhabited S35:=⟨z35⟩
def wf35 (x : S35) : Prop:=(fun n => (Lit.int .i64 n).wf = true) x.f0 ∧ (fun n => (Lit.int .i64 n).wf = true) x.f1 ∧ (fun n => (Lit.int .i64 n).wf = true) x.f2 ∧ (fun n => (Lit.int .i64 n).wf = true) x.f3 ∧ (fun n => (Lit.int .u32 n).wf = true) x.f4
theorem op35 : c_G Tryd.prog 35 k35 wf35 :=
 ⟨by kernel_rfl,fun {H enc w base spare held fuel cs x} h => by
  have hl : cs.length = 5:=(d_7 Tryd.underlying35 h).trans (by kernel_rfl)
  obtain ⟨v0,h0,w0⟩:=b_R Tryd.underlying35 h 0 rfl (c_G.int Tryd.underlying3 (by kernel_rfl))
  obtain ⟨v1,h1,w1⟩:=b_R Tryd.underlying35 h 1 rfl (c_G.int Tryd.underlying3 (by kernel_rfl))
  obtain ⟨v2,h2,w2⟩:=b_R Tryd.underlying35 h 2 rfl (c_G.int Tryd.underlying3 (by kernel_rfl))
  obtain ⟨v3,h3,w3⟩:=b_R Tryd.underlying35 h 3 rfl (c_G.int Tryd.underlying3 (by kernel_rfl))
  obtain ⟨v4,h4,w4⟩:=b_R Tryd.underlying35 h 4 rfl (c_G.int Tryd.underlying32 (by kernel_rfl))
  obtain ⟨c0,l0,rfl,hm0⟩:=b_m hl
  obtain ⟨c1,l1,rfl,hm1⟩:=b_m hm0
  obtain ⟨c2,l2,rfl,hm2⟩:=b_m hm1
  obtain ⟨c3,l3,rfl,hm3⟩:=b_m hm2
  obtain ⟨c4,l4,rfl,hm4⟩:=b_m hm3
  obtain rfl:=List.eq_nil_of_length_eq_zero hm4
  exact ⟨⟨v0,v1,v2,v3,v4⟩,⟨[c0],[c1,c2,c3,c4],rfl,h0,⟨[c1],[c2,c3,c4],rfl,h1,⟨[c2],[c3,c4],rfl,h2,⟨[c3],[c4],rfl,h3,h4⟩⟩⟩⟩,⟨w0,w1,w2,w3,w4⟩⟩⟩
end Go.Proofs.YtkhbffjfclepfaaDoor.Q
end
section
namespace Go.Proofs.YtkhbffjfclepfaaDoor.Q
open Go.RowKit Go.Proofs.YtkhbffjfclepfaaDoorW.PrintWords Go.Proofs.YtkhbffjfclepfaaDoorW.PrintLast Go.Proofs.YtkhbffjfclepfaaDoorW.PrintMore
set_option linter.unusedVariables false
set_option linter.unusedSimpArgs false
def a_N.f (a0 : Int) : Option (Int):=if (Go.bits .andNot .u32 a0 255) = 0 then (some 0) else (some 140)
set_option maxHeartbeats 8000000 in
set_option maxRecDepth 100000 in
theorem a_N.calls (a0 : Int) (r : Int) (w : World) (h : a_N.f a0 = some r) :
 Calls Tryd.prog 20 #[.int .u32 a0] w fun e w' => e = .returned (.int .i64 r) ∧ a_2 w w':=by
 have H : (if (Go.bits .andNot .u32 a0 255) = 0 then (some 0) else (some 140)) = some r:=h
 clear h
 by_cases c2 : (Go.bits .andNot .u32 a0 255) = 0
 ·rw [if_pos c2] at H
  have c2b0 : ((Go.bits .andNot .u32 a0 255) == 0) = true:=beq_iff_eq.mpr c2
  have c2b1 : ((Go.bits .andNot .u32 a0 255) != 0) = false:=bne_eq_false_iff_eq.mpr c2
  clear c2
  obtain rfl:=Option.some.inj H
  go_enter Tryd.func20,Tryd.ntmps20
  go_wp2
  go_ret
  exact ⟨by first|rfl|(simp;done)|(simp [*];done),by repeat (first|exact a_2.refl _|apply a_2.step)⟩
 rw [if_neg c2] at H
 have c2b0 : ((Go.bits .andNot .u32 a0 255) == 0) = false:=beq_eq_false_iff_ne.mpr c2
 have c2b1 : ((Go.bits .andNot .u32 a0 255) != 0) = true:=bne_iff_ne.mpr c2
 obtain rfl:=Option.some.inj H
 go_enter Tryd.func20,Tryd.ntmps20
 go_wp2
 go_ret
 exact ⟨by first|rfl|(simp;done)|(simp [*];done),by repeat (first|exact a_2.refl _|apply a_2.step)⟩
end Go.Proofs.YtkhbffjfclepfaaDoor.Q
end
section
namespace Go.Proofs.YtkhbffjfclepfaaDoor.Q
open Go.RowKit Go.Proofs.YtkhbffjfclepfaaDoorW.PrintWords Go.Proofs.YtkhbffjfclepfaaDoorW.PrintLast Go.Proofs.YtkhbffjfclepfaaDoorW.PrintMore
set_option linter.unusedVariables false
set_option linter.unusedSimpArgs false
mutual
def a_n.j0 : Nat → Bool → List Int → Option (Int)
 | 0,_,_ => none
 | k + 1,x3,x108000 => a_n.l0 k x3 0 x108000 (x108000.length : Int) 0
def a_n.l0 : Nat → Bool → Int → List Int → Int → Int → Option (Int)
 | 0,_,_,_,_,_ => none
 | k + 1,x3,x4,x18,x19,x20 => if x20 < x19 then (if 0 ≤ x20 then (if x20 < (x18.length : Int) then (if x3 = true then (if (rd x18 x20) = 0 then (a_n.l0 k false (Go.bits .or .u32 x4 (rd x18 x20)) x18 x19 (wrap64 (x20 + 1))) else ((a_N.f (rd x18 x20)).bind fun t109 => (if t109 = 0 then (a_n.l0 k ((Go.bits .and .u32 (rd x18 x20) x4) == 0) (Go.bits .or .u32 x4 (rd x18 x20)) x18 x19 (wrap64 (x20 + 1))) else (a_n.l0 k false (Go.bits .or .u32 x4 (rd x18 x20)) x18 x19 (wrap64 (x20 + 1)))))) else (a_n.l0 k false (Go.bits .or .u32 x4 (rd x18 x20)) x18 x19 (wrap64 (x20 + 1)))) else (none)) else (none)) else (if x3 = true then (if (Go.bits .and .u32 x4 ((x4 + 1) % 4294967296)) = 0 then (some 0) else (some 180)) else (some 180))
end
def a_n.f (k : Nat) (l0_0 : List Int) : Option (Int):=if (l0_0.length : Int) > 0 then (a_n.j0 k (decide ((l0_0.length : Int) ≤ 4)) l0_0) else (a_n.j0 k false l0_0)
theorem a_n.b_4 : ∀ k,(∀ y0 y1,LeO (a_n.j0 k y0 y1) (a_n.j0 (k + 1) y0 y1)) ∧ (∀ y0 y1 y2 y3 y4,LeO (a_n.l0 k y0 y1 y2 y3 y4) (a_n.l0 (k + 1) y0 y1 y2 y3 y4))
 | 0 => ⟨fun _ _ r h => by simp [a_n.j0] at h,fun _ _ _ _ _ r h => by simp [a_n.l0] at h⟩
 | k + 1 => by
  obtain ⟨ih0,ih1⟩:=a_n.b_4 k
  refine ⟨?_,?_⟩
  ·intro y0 y1
   unfold a_n.j0
   repeat' first
   | (with_reducible exact ih0 _ _)
   | (with_reducible exact ih1 _ _ _ _ _)
   | (with_reducible exact LeO.refl _)
   | (with_reducible exact LeO.none _)
   | (with_reducible refine LeO.ite ?_ ?_)
   | (with_reducible refine LeO.bind ?_ (fun _ => ?_))
   | exact ih0 _ _
   | exact ih1 _ _ _ _ _
   | exact LeO.none _
   | refine LeO.ite ?_ ?_
   | refine LeO.bind ?_ (fun _ => ?_)
  ·intro y0 y1 y2 y3 y4
   unfold a_n.l0
   repeat' first
   | (with_reducible exact ih0 _ _)
   | (with_reducible exact ih1 _ _ _ _ _)
   | (with_reducible exact LeO.refl _)
   | (with_reducible exact LeO.none _)
   | (with_reducible refine LeO.ite ?_ ?_)
   | (with_reducible refine LeO.bind ?_ (fun _ => ?_))
   | exact ih0 _ _
   | exact ih1 _ _ _ _ _
   | exact LeO.none _
   | refine LeO.ite ?_ ?_
   | refine LeO.bind ?_ (fun _ => ?_)
theorem a_n.mono : ∀ a0 k,LeO (a_n.f k a0) (a_n.f (k + 1) a0):=by
 intro a0 k
 obtain ⟨ih0,ih1⟩:=a_n.b_4 k
 unfold a_n.f
 repeat' first
  | (with_reducible exact ih0 _ _)
  | (with_reducible exact ih1 _ _ _ _ _)
  | (with_reducible exact LeO.refl _)
  | (with_reducible exact LeO.none _)
  | (with_reducible refine LeO.ite ?_ ?_)
  | (with_reducible refine LeO.bind ?_ (fun _ => ?_))
  | exact ih0 _ _
  | exact ih1 _ _ _ _ _
  | exact LeO.none _
  | refine LeO.ite ?_ ?_
  | refine LeO.bind ?_ (fun _ => ?_)
set_option maxHeartbeats 8000000 in
set_option maxRecDepth 100000 in
theorem a_n.calls (k : Nat) (A0_0 : Option Addr) (c0_0 : Nat) (l0_0 : List Int) (r : Int) (w : World) (hr0_0 : Kd.C (Kd.int .u32) w A0_0 l0_0.length l0_0) (hc0_0 : l0_0.length ≤ c0_0) (h : a_n.f k l0_0 = some r) :
 Calls Tryd.prog 12 #[.agg #[.slice A0_0 l0_0.length c0_0]] w fun e w' => e = .returned (.int .i64 r) ∧ Below w.heap.size w w':=by
 have hu26:=Tryd.underlying26
 have b_G:=a_a.mk hr0_0
 have b_U:=a_a.mk hc0_0
 clear hr0_0 hc0_0
 have HB:=a_a.mk (Below.refl w.heap.size w)
 have H : (if (l0_0.length : Int) > 0 then (a_n.j0 k (decide ((l0_0.length : Int) ≤ 4)) l0_0) else (a_n.j0 k false l0_0)) = some r:=h
 clear h
 have HC2:=a_a.mk H
 clear H
 go_enter Tryd.func12,Tryd.ntmps12
 go_upto_region 1 with (first|((with_reducible refine a_u (N:=1) rfl ?_);(try (refine b_r (by rfl) ?_;dsimp only));refine a_t ?hg (N:=1) ?hd (cs:=#[.slice A0_0 l0_0.length c0_0]) (t:=26) ?hr ?_;(case hd => rfl);(case hg => rfl);(case hr => first|(go_simp;done)|(go_simp;rfl));intro e_q hg w3 hbox hb;have c_I:=a_a.mk (hbox);have j_N:=a_a.mk ((by rw [hg];exact (a_r (lup_ HB.out)) : w.heap.size ≤ e_q));have d_w:=a_a.mk ((by rw [hg];exact (a_r (lup_ HB.out)) : w.heap.size ≤ e_q));replace HB:=a_a.mk (a_i (lup_ HB.out) hb);clear hb hbox hg))
 (try simp only [Act.put,sa_,sb_,sc_])
 go_cut [3] (fun v3 wc => ∃ (kq : Nat) (x3_1 : Bool),v3 = .bool x3_1 ∧ a_a (a_n.j0 kq x3_1 l0_0 = some r) ∧ a_a (kq ≤ k) ∧ a_a (wc.heap[e_q]? = some (.cells #[(.slice A0_0 l0_0.length c0_0)] 26 (0,0))) ∧ a_a (Below w.heap.size w wc))
 case first =>
  have H:=HC2.out
  clear HC2
  by_cases c4 : (l0_0.length : Int) > 0
  ·rw [if_pos c4] at H
   have c4b0 : decide (0 < (l0_0.length : Int)) = true:=decide_eq_true c4
   have c4b1 : decide (0 < l0_0.length) = true:=decide_eq_true (by omega)
   clear c4
   (first|rw [c4b0]|(simp only [f_Q,f_G];rw [c4b0])|skip)
   have H':=a_a.mk H
   clear H
   have e_J : w3.cell? ⟨e_q,0,none⟩ = some (.slice A0_0 l0_0.length c0_0):=(a_h c_I.out 0).trans rfl
   have e_K:=a_f c_I.out 0
   go_wp2
   go_meet
   case rel => exact ⟨_,(decide ((l0_0.length : Int) ≤ 4)),(by first|rfl|(simp;done)|(simp [*];done)),H',⟨by first|omega|exact Nat.le_refl _⟩,⟨by (with_reducible repeat (first|refine a_o ?_ _|refine a_m ?_|refine a_p ?_ _));exact c_I.out⟩,⟨by repeat (first|(with_reducible first|exact HB.out|apply a_e|apply a_c|apply a_g|refine a_d ?_ d_w.out)|exact HB.out)⟩⟩
  rw [if_neg c4] at H
  have c4b0 : decide (0 < (l0_0.length : Int)) = false:=decide_eq_false c4
  have c4b1 : decide (0 < l0_0.length) = false:=decide_eq_false (by omega)
  clear c4
  (first|rw [c4b0]|(simp only [f_Q,f_G];rw [c4b0])|skip)
  have H':=a_a.mk H
  clear H
  have f_o : w3.cell? ⟨e_q,0,none⟩ = some (.slice A0_0 l0_0.length c0_0):=(a_h c_I.out 0).trans rfl
  have f_p:=a_f c_I.out 0
  go_wp2
  go_meet
  case rel => exact ⟨_,(false),(by first|rfl|(simp;done)|(simp [*];done)),H',⟨by first|omega|exact Nat.le_refl _⟩,⟨by (with_reducible repeat (first|refine a_o ?_ _|refine a_m ?_|refine a_p ?_ _));exact c_I.out⟩,⟨by repeat (first|(with_reducible first|exact HB.out|apply a_e|apply a_c|apply a_g|refine a_d ?_ d_w.out)|exact HB.out)⟩⟩
 case rest =>
  clear HC2
  try clear c1
  try clear p2
  try clear c4
  try clear c4b0
  try clear c4b1
  try clear e_J
  try clear f_o
  try clear e_K
  try clear f_p
  obtain ⟨kq,x3_1,rfl,HA,HJ1,c_I,HB⟩:=hcut
  cases kq with
  | zero => exact absurd HA.out (by simp [a_n.j0])
  | succ kj1 =>
   have H:=HA.out
   clear HA
   simp only [a_n.j0] at H
   have H':=a_a.mk H
   clear H
   have e_f : wc.cell? ⟨e_q,0,none⟩ = some (.slice A0_0 l0_0.length c0_0):=(a_h c_I.out 0).trans rfl
   have e_g:=a_f c_I.out 0
   go_wp2
   go_loopg [3,4,20] kj1 (fun kq v3 v4 v20 w' => ∃ (x3_2 : Bool) (x4_2 : Int) (x20_2 : Int),v3 = .bool x3_2 ∧ v4 = .int .u32 x4_2 ∧ v20 = .int .i64 x20_2 ∧ a_a (a_n.l0 kq x3_2 x4_2 l0_0 (l0_0.length : Int) x20_2 = some r) ∧ a_a (kq ≤ kj1) ∧ a_a (w'.heap[e_q]? = some (.cells #[(.slice A0_0 l0_0.length c0_0)] 26 (0,0))) ∧ a_a (Below w.heap.size w w'))
   case atStart => exact ⟨(x3_1),(0),(0),(by first|rfl|(simp;done)|(simp [*];done)),(by first|rfl|(simp;done)|(simp [*];done)),(by first|rfl|(simp;done)|(simp [*];done)),H',⟨Nat.le_refl _⟩,⟨by (with_reducible repeat (first|refine a_o ?_ _|refine a_m ?_|refine a_p ?_ _));exact c_I.out⟩,⟨by repeat (first|(with_reducible first|exact HB.out|apply a_e|apply a_c|apply a_g|refine a_d ?_ d_w.out)|exact HB.out)⟩⟩
   case round =>
    clear H'
    try clear c1
    try clear p2
    try clear c4
    try clear c4b0
    try clear c4b1
    try clear e_J
    try clear f_o
    try clear e_f
    try clear e_K
    try clear f_p
    try clear e_g
    try clear p2
    obtain ⟨x3_2,x4_2,x20_2,rfl,rfl,rfl,HA,HK2,c_I,HB⟩:=hrel
    cases gk with
    | zero => exact absurd HA.out (by simp [a_n.l0])
    | succ k2 =>
     have H:=HA.out
     clear HA
     simp only [a_n.l0] at H
     by_cases c8 : x20_2 < (l0_0.length : Int)
     rotate_left
     ·rw [if_neg c8] at H
      have c8b0 : decide (x20_2 < (l0_0.length : Int)) = false:=decide_eq_false c8
      clear c8
      by_cases c15 : x3_2 = true
      rotate_left
      ·replace c15:=Bool.eq_false_iff.mpr c15
       subst c15
       have H1 : (some 180) = some r:=by rw [if_neg (show ¬ (false = true) by decide)] at H;exact H
       clear H
       have H:=H1
       clear H1
       obtain rfl:=Option.some.inj H
       go_wp2
       go_ret
       exact ⟨by first|rfl|(simp [a_y,a_z] <;> rfl)|(simp [*, a_y,a_z] <;> rfl),by repeat (first|(with_reducible first|exact HB.out|apply a_e|apply a_c|apply a_g|refine a_d ?_ d_w.out)|exact HB.out)⟩
      subst c15
      have H1 : (if (Go.bits .and .u32 x4_2 ((x4_2 + 1) % 4294967296)) = 0 then (some 0) else (some 180)) = some r:=by rw [if_pos rfl] at H;exact H
      clear H
      have H:=H1
      clear H1
      by_cases c16 : (Go.bits .and .u32 x4_2 ((x4_2 + 1) % 4294967296)) = 0
      ·rw [if_pos c16] at H
       have c16b0 : ((Go.bits .and .u32 x4_2 ((x4_2 + 1) % 4294967296)) == 0) = true:=beq_iff_eq.mpr c16
       have c16b1 : ((Go.bits .and .u32 x4_2 ((x4_2 + 1) % 4294967296)) != 0) = false:=bne_eq_false_iff_eq.mpr c16
       clear c16
       obtain rfl:=Option.some.inj H
       go_wp2
       go_ret
       exact ⟨by first|rfl|(simp [a_y,a_z] <;> rfl)|(simp [*, a_y,a_z] <;> rfl),by repeat (first|(with_reducible first|exact HB.out|apply a_e|apply a_c|apply a_g|refine a_d ?_ d_w.out)|exact HB.out)⟩
      rw [if_neg c16] at H
      have c16b0 : ((Go.bits .and .u32 x4_2 ((x4_2 + 1) % 4294967296)) == 0) = false:=beq_eq_false_iff_ne.mpr c16
      have c16b1 : ((Go.bits .and .u32 x4_2 ((x4_2 + 1) % 4294967296)) != 0) = true:=bne_iff_ne.mpr c16
      obtain rfl:=Option.some.inj H
      go_wp2
      go_ret
      exact ⟨by first|rfl|(simp [a_y,a_z] <;> rfl)|(simp [*, a_y,a_z] <;> rfl),by repeat (first|(with_reducible first|exact HB.out|apply a_e|apply a_c|apply a_g|refine a_d ?_ d_w.out)|exact HB.out)⟩
     rw [if_pos c8] at H
     have c8b0 : decide (x20_2 < (l0_0.length : Int)) = true:=decide_eq_true c8
     clear c8
     by_cases c9 : 0 ≤ x20_2
     rotate_left
     ·rw [if_neg c9] at H
      exact absurd H (by simp)
     rw [if_pos c9] at H
     have c9b0 : decide (0 ≤ x20_2) = true:=decide_eq_true c9
     clear c9
     by_cases c10 : x20_2 < (l0_0.length : Int)
     rotate_left
     ·rw [if_neg c10] at H
      exact absurd H (by simp)
     rw [if_pos c10] at H
     have c10b0 : decide (x20_2 < (l0_0.length : Int)) = true:=decide_eq_true c10
     clear c10
     by_cases c11 : x3_2 = true
     rotate_left
     ·replace c11:=Bool.eq_false_iff.mpr c11
      subst c11
      have H1 : (a_n.l0 k2 false (Go.bits .or .u32 x4_2 (rd l0_0 x20_2)) l0_0 (l0_0.length : Int) (wrap64 (x20_2 + 1))) = some r:=by rw [if_neg (show ¬ (false = true) by decide)] at H;exact H
      clear H
      have H:=H1
      clear H1
      have H':=a_a.mk H
      clear H
      have p108 : 0 ≤ (x20_2 : Int):=of_decide_eq_true (by first|(with_reducible assumption)|assumption)
      have q108 : x20_2 < (l0_0.length : Int):=of_decide_eq_true (by first|(with_reducible assumption)|assumption)
      obtain ⟨ad108,e108,b_F⟩:=Kd.b_X b_G.out x20_2 p108 q108
      cases e108
      replace b_F:=(HB.out.cell (World.block_lt_of_cell? w _ b_F)).trans b_F
      replace p108:=eq_true p108
      replace q108:=eq_true q108
      go_wp2
      go_roundg k2
      case measure => have:=HJ1.out;have:=HK2.out;omega
      case rel => exact ⟨(false),(Go.bits .or .u32 x4_2 (rd l0_0 x20_2)),(wrap64 (x20_2 + 1)),(by first|rfl|(simp;done)|(simp [*];done)),(by first|rfl|(simp;done)|(simp [*];done)),(by first|rfl|(simp;done)|(simp [*];done)),H',⟨by have:=HJ1.out;have:=HK2.out;omega⟩,⟨by (with_reducible repeat (first|refine a_o ?_ _|refine a_m ?_|refine a_p ?_ _));exact c_I.out⟩,⟨by repeat (first|(with_reducible first|exact HB.out|apply a_e|apply a_c|apply a_g|refine a_d ?_ d_w.out)|exact HB.out)⟩⟩
     subst c11
     have H1 : (if (rd l0_0 x20_2) = 0 then (a_n.l0 k2 false (Go.bits .or .u32 x4_2 (rd l0_0 x20_2)) l0_0 (l0_0.length : Int) (wrap64 (x20_2 + 1))) else ((a_N.f (rd l0_0 x20_2)).bind fun t109 => (if t109 = 0 then (a_n.l0 k2 ((Go.bits .and .u32 (rd l0_0 x20_2) x4_2) == 0) (Go.bits .or .u32 x4_2 (rd l0_0 x20_2)) l0_0 (l0_0.length : Int) (wrap64 (x20_2 + 1))) else (a_n.l0 k2 false (Go.bits .or .u32 x4_2 (rd l0_0 x20_2)) l0_0 (l0_0.length : Int) (wrap64 (x20_2 + 1)))))) = some r:=by rw [if_pos rfl] at H;exact H
     clear H
     have H:=H1
     clear H1
     by_cases c12 : (rd l0_0 x20_2) = 0
     ·rw [if_pos c12] at H
      have c12b0 : ((rd l0_0 x20_2) == 0) = true:=beq_iff_eq.mpr c12
      have c12b1 : ((rd l0_0 x20_2) != 0) = false:=bne_eq_false_iff_eq.mpr c12
      clear c12
      have H':=a_a.mk H
      clear H
      have p108 : 0 ≤ (x20_2 : Int):=of_decide_eq_true (by first|(with_reducible assumption)|assumption)
      have q108 : x20_2 < (l0_0.length : Int):=of_decide_eq_true (by first|(with_reducible assumption)|assumption)
      obtain ⟨ad108,e108,b_F⟩:=Kd.b_X b_G.out x20_2 p108 q108
      cases e108
      replace b_F:=(HB.out.cell (World.block_lt_of_cell? w _ b_F)).trans b_F
      replace p108:=eq_true p108
      replace q108:=eq_true q108
      go_wp2
      go_roundg k2
      case measure => have:=HJ1.out;have:=HK2.out;omega
      case rel => exact ⟨(false),(Go.bits .or .u32 x4_2 (rd l0_0 x20_2)),(wrap64 (x20_2 + 1)),(by first|rfl|(simp;done)|(simp [*];done)),(by first|rfl|(simp;done)|(simp [*];done)),(by first|rfl|(simp;done)|(simp [*];done)),H',⟨by have:=HJ1.out;have:=HK2.out;omega⟩,⟨by (with_reducible repeat (first|refine a_o ?_ _|refine a_m ?_|refine a_p ?_ _));exact c_I.out⟩,⟨by repeat (first|(with_reducible first|exact HB.out|apply a_e|apply a_c|apply a_g|refine a_d ?_ d_w.out)|exact HB.out)⟩⟩
     rw [if_neg c12] at H
     have c12b0 : ((rd l0_0 x20_2) == 0) = false:=beq_eq_false_iff_ne.mpr c12
     have c12b1 : ((rd l0_0 x20_2) != 0) = true:=bne_iff_ne.mpr c12
     replace H:=Option.bind_eq_some_iff.mp H
     obtain ⟨t109,A130,H⟩:=H
     replace H : (if t109 = 0 then (a_n.l0 k2 ((Go.bits .and .u32 (rd l0_0 x20_2) x4_2) == 0) (Go.bits .or .u32 x4_2 (rd l0_0 x20_2)) l0_0 (l0_0.length : Int) (wrap64 (x20_2 + 1))) else (a_n.l0 k2 false (Go.bits .or .u32 x4_2 (rd l0_0 x20_2)) l0_0 (l0_0.length : Int) (wrap64 (x20_2 + 1)))) = some r:=H
     have A13:=a_a.mk A130
     clear A130
     by_cases c14 : t109 = 0
     ·rw [if_pos c14] at H
      have c14b0 : (t109 == 0) = true:=beq_iff_eq.mpr c14
      have c14b1 : (t109 != 0) = false:=bne_eq_false_iff_eq.mpr c14
      clear c14
      have H':=a_a.mk H
      clear H
      have p108 : 0 ≤ (x20_2 : Int):=of_decide_eq_true (by first|(with_reducible assumption)|assumption)
      have q108 : x20_2 < (l0_0.length : Int):=of_decide_eq_true (by first|(with_reducible assumption)|assumption)
      obtain ⟨ad108,e108,b_F⟩:=Kd.b_X b_G.out x20_2 p108 q108
      cases e108
      replace b_F:=(HB.out.cell (World.block_lt_of_cell? w _ b_F)).trans b_F
      replace p108:=eq_true p108
      replace q108:=eq_true q108
      go_wp2_with (first|(go_at_call 20;(with_reducible refine (a_N.calls (rd l0_0 x20_2) t109 _ A13.out).mono ?_);rintro e w' ⟨rfl,⟨nd,rfl⟩⟩))
      go_roundg k2
      case measure => have:=HJ1.out;have:=HK2.out;omega
      case rel => exact ⟨(((Go.bits .and .u32 (rd l0_0 x20_2) x4_2) == 0)),(Go.bits .or .u32 x4_2 (rd l0_0 x20_2)),(wrap64 (x20_2 + 1)),(by first|rfl|(simp;done)|(simp [*];done)),(by first|rfl|(simp;done)|(simp [*];done)),(by first|rfl|(simp;done)|(simp [*];done)),H',⟨by have:=HJ1.out;have:=HK2.out;omega⟩,⟨by (with_reducible repeat (first|refine a_o ?_ _|refine a_m ?_|refine a_p ?_ _));exact c_I.out⟩,⟨by repeat (first|(with_reducible first|exact HB.out|apply a_e|apply a_c|apply a_g|refine a_d ?_ d_w.out)|exact HB.out)⟩⟩
     rw [if_neg c14] at H
     have c14b0 : (t109 == 0) = false:=beq_eq_false_iff_ne.mpr c14
     have c14b1 : (t109 != 0) = true:=bne_iff_ne.mpr c14
     have H':=a_a.mk H
     clear H
     have p108 : 0 ≤ (x20_2 : Int):=of_decide_eq_true (by first|(with_reducible assumption)|assumption)
     have q108 : x20_2 < (l0_0.length : Int):=of_decide_eq_true (by first|(with_reducible assumption)|assumption)
     obtain ⟨ad108,e108,b_F⟩:=Kd.b_X b_G.out x20_2 p108 q108
     cases e108
     replace b_F:=(HB.out.cell (World.block_lt_of_cell? w _ b_F)).trans b_F
     replace p108:=eq_true p108
     replace q108:=eq_true q108
     go_wp2_with (first|(go_at_call 20;(with_reducible refine (a_N.calls (rd l0_0 x20_2) t109 _ A13.out).mono ?_);rintro e w' ⟨rfl,⟨nd,rfl⟩⟩))
     go_roundg k2
     case measure => have:=HJ1.out;have:=HK2.out;omega
     case rel => exact ⟨(false),(Go.bits .or .u32 x4_2 (rd l0_0 x20_2)),(wrap64 (x20_2 + 1)),(by first|rfl|(simp;done)|(simp [*];done)),(by first|rfl|(simp;done)|(simp [*];done)),(by first|rfl|(simp;done)|(simp [*];done)),H',⟨by have:=HJ1.out;have:=HK2.out;omega⟩,⟨by (with_reducible repeat (first|refine a_o ?_ _|refine a_m ?_|refine a_p ?_ _));exact c_I.out⟩,⟨by repeat (first|(with_reducible first|exact HB.out|apply a_e|apply a_c|apply a_g|refine a_d ?_ d_w.out)|exact HB.out)⟩⟩
end Go.Proofs.YtkhbffjfclepfaaDoor.Q
end
section
namespace Go.Proofs.YtkhbffjfclepfaaDoor.Q
open Go.RowKit Go.Proofs.YtkhbffjfclepfaaDoorW.PrintWords Go.Proofs.YtkhbffjfclepfaaDoorW.PrintLast Go.Proofs.YtkhbffjfclepfaaDoorW.PrintMore
set_option linter.unusedVariables false
set_option linter.unusedSimpArgs false
def b_A.f (a0 : Int) : Option (Int):=if a0 < 0 then (some 0) else (if a0 ≥ 8 then (some 0) else (if 0 ≤ a0 then (some (shl .u32 1 a0)) else (none)))
set_option maxHeartbeats 8000000 in
set_option maxRecDepth 100000 in
theorem b_A.calls (a0 : Int) (r : Int) (w : World) (h : b_A.f a0 = some r) :
 Calls Tryd.prog 38 #[.int .i64 a0] w fun e w' => e = .returned (.int .u32 r) ∧ a_2 w w':=by
 have H : (if a0 < 0 then (some 0) else (if a0 ≥ 8 then (some 0) else (if 0 ≤ a0 then (some (shl .u32 1 a0)) else (none)))) = some r:=h
 clear h
 by_cases c2 : a0 < 0
 ·rw [if_pos c2] at H
  have c2b0 : decide (a0 < 0) = true:=decide_eq_true c2
  clear c2
  obtain rfl:=Option.some.inj H
  go_enter Tryd.func38,Tryd.ntmps38
  go_wp2
  go_ret
  exact ⟨by first|rfl|(simp;done)|(simp [*];done),by repeat (first|exact a_2.refl _|apply a_2.step)⟩
 rw [if_neg c2] at H
 have c2b0 : decide (a0 < 0) = false:=decide_eq_false c2
 clear c2
 by_cases c3 : a0 ≥ 8
 ·rw [if_pos c3] at H
  have c3b0 : decide (8 ≤ a0) = true:=decide_eq_true c3
  clear c3
  obtain rfl:=Option.some.inj H
  go_enter Tryd.func38,Tryd.ntmps38
  go_wp2
  go_ret
  exact ⟨by first|rfl|(simp;done)|(simp [*];done),by repeat (first|exact a_2.refl _|apply a_2.step)⟩
 rw [if_neg c3] at H
 have c3b0 : decide (8 ≤ a0) = false:=decide_eq_false c3
 clear c3
 by_cases c4 : 0 ≤ a0
 rotate_left
 ·rw [if_neg c4] at H
  exact absurd H (by simp)
 rw [if_pos c4] at H
 have c4b0:=eq_true c4
 have c4b1 : decide (0 ≤ a0) = true:=decide_eq_true c4
 clear c4
 obtain ⟨ji5,hji5⟩ : ∃ j_ : Int,(shl .u32 1 a0) = j_:=⟨_,rfl⟩
 replace H : (some ji5) = some r:=by first|(rw [hji5] at H;exact H)|(simp only [hji5] at H ⊢; exact H)
 have hji5_ : (IntKind.u32.wrap (1 * 2 ^ min a0.toNat 32)) = ji5:=hji5
 have hji5z : a0 ≤ 32 → (IntKind.u32.wrap (1 * 2 ^ a0.toNat)) = ji5:=d_l hji5
 have hji5u : (IntKind.u32.wrap (2 ^ min a0.toNat 32)) = ji5:=by have h_:=hji5_;rw [Int.one_mul] at h_;exact h_
 have hji5v : a0 ≤ 32 → (IntKind.u32.wrap (2 ^ a0.toNat)) = ji5:=fun hle_ => by have h_:=hji5z hle_;rw [Int.one_mul] at h_;exact h_
 obtain rfl:=Option.some.inj H
 go_enter Tryd.func38,Tryd.ntmps38
 go_wp2
 go_ret
 exact ⟨by first|rfl|(simp;done)|(simp only [← hji5] <;> (first|rfl|simp))|(simp [*];done),by repeat (first|exact a_2.refl _|apply a_2.step)⟩
end Go.Proofs.YtkhbffjfclepfaaDoor.Q
end
section
namespace Go.Proofs.YtkhbffjfclepfaaDoor.Q
open Go.RowKit Go.Proofs.YtkhbffjfclepfaaDoorW.PrintWords Go.Proofs.YtkhbffjfclepfaaDoorW.PrintLast Go.Proofs.YtkhbffjfclepfaaDoorW.PrintMore
set_option linter.unusedVariables false
set_option linter.unusedSimpArgs false
def b_z.f (a0 : Int) (a1 : Int) : Option (Bool):=(b_A.f a1).bind fun t195 => (some ((Go.bits .and .u32 a0 t195) != 0))
set_option maxHeartbeats 8000000 in
set_option maxRecDepth 100000 in
theorem b_z.calls (a0 : Int) (a1 : Int) (r : Bool) (w : World) (h : b_z.f a0 a1 = some r) :
 Calls Tryd.prog 30 #[.int .u32 a0,.int .i64 a1] w fun e w' => e = .returned (.bool r) ∧ a_2 w w':=by
 have H : ((b_A.f a1).bind fun t195 => (some ((Go.bits .and .u32 a0 t195) != 0))) = some r:=h
 clear h
 replace H:=Option.bind_eq_some_iff.mp H
 obtain ⟨t195,A30,H⟩:=H
 replace H : (some ((Go.bits .and .u32 a0 t195) != 0)) = some r:=H
 have A3:=a_a.mk A30
 clear A30
 obtain rfl:=Option.some.inj H
 go_enter Tryd.func30,Tryd.ntmps30
 go_wp2_with (first|((with_reducible refine a_x (f:=38) rfl ?_);refine a_Y (some 7) rfl rfl Tryd.func38 (by kernel_rfl) rfl #[.int .i64 a1] rfl (by (try simp only [List.map_toArray,List.map_cons,List.map_nil]);first|done|rfl|(simp only [List.length_drop,List.length_take];rfl)) ?_;(with_reducible refine (b_A.calls a1 t195 _ A3.out).mono ?_);rintro e w' ⟨rfl,⟨nd,rfl⟩⟩;refine ⟨_,rfl,?_⟩))
 go_ret
 exact ⟨by first|rfl|(simp;done)|(simp [*];done),by repeat (first|exact a_2.refl _|apply a_2.step)⟩
end Go.Proofs.YtkhbffjfclepfaaDoor.Q
end
section
namespace Go.Proofs.YtkhbffjfclepfaaDoor.Q
open Go.RowKit Go.Proofs.YtkhbffjfclepfaaDoorW.PrintWords Go.Proofs.YtkhbffjfclepfaaDoorW.PrintLast Go.Proofs.YtkhbffjfclepfaaDoorW.PrintMore
set_option linter.unusedVariables false
set_option linter.unusedSimpArgs false
set_option maxHeartbeats 2000000 in
theorem c_n.any (g : Nat) (lb : Array Value) (eg : ∀ args w,(callFunc g args).run Tryd.prog w = .ok (.enter g args) w) (p : Int → Bool) (A : Option Addr) (c : Nat) (xs : List Int) (w : World)
 (hr : Kd.C (Kd.int .u32) w A xs.length xs) (hlen : xs.length ≤ 35184372088832)
 (hp : ∀ W,Below w.heap.size w W → ∀ x ∈ xs,Calls Tryd.prog g (#[.int .u32 x] ++ lb) W fun e W' => e = .returned (.bool (p x)) ∧ Below W.heap.size W W') :
 Calls Tryd.prog 28 #[.slice A xs.length c,.func (.func g) #[] lb] w fun e w' => e = .returned (.int .i64 (idxOf p xs)) ∧ Below w.heap.size w w':=by
 have HP:=a_a.mk hp
 have HR:=a_a.mk hr
 clear hp hr
 go_enter Tryd.func28,Tryd.ntmps28
 go_wp2
 go_loopg [5,8] xs.length (fun gg _ s8 wr => ∃ kk : Nat,s8 = .int .i64 kk ∧ kk ≤ xs.length ∧ xs.length - kk ≤ gg ∧ a_a (Below w.heap.size w wr) ∧ a_a (∀ j (hj : j < kk) (hj2 : j < xs.length),p xs[j] = false))
 case atStart => exact ⟨0,rfl,Nat.zero_le _,by omega,⟨Below.refl _ _⟩,⟨fun j hj => absurd hj (Nat.not_lt_zero _)⟩⟩
 case round =>
  obtain ⟨kk,rfl,hkk,hg,HB,HN⟩:=hrel
  by_cases hlt : kk < xs.length
  rotate_left
  ·have hltz : ¬ (kk : Int) < (xs.length : Int):=by omega
   have : kk = xs.length:=by omega
   go_wp2
   go_ret
   refine ⟨?_,HB.out⟩
   rw [idxOf_miss (fun j hj => HN.out j (by omega) hj)];rfl
  have hltz : (kk : Int) < (xs.length : Int):=by omega
  obtain ⟨ad,rfl,hcell⟩:=Kd.b_X (Kd.a_K HR.out HB.out) (kk : Int) (by omega) (by omega)
  have hx:=List.getElem_mem hlt
  have hrd : rd xs (kk : Int) = xs[kk]:=by unfold rd;simp [hlt]
  rw [hrd] at hcell
  simp only [Int.toNat_natCast] at hcell
  have hcall:=HP.out _ HB.out _ hx
  generalize hy : xs[kk] = y at hcell hcall hx
  have HY:=a_a.mk hy
  clear hy hx hrd
  cases hq : p y with
  | true =>
   rw [hq] at hcall
   go_wp2_with (go_at_fn g;refine hcall.mono ?_;rintro e w' ⟨rfl,hb'⟩)
   go_ret
   refine ⟨?_,HB.out.trans (hb'.mono (a_r HB.out))⟩
   rw [idxOf_hit hlt (by rw [HY.out];exact hq) (fun j hj => HN.out j hj (by omega))];rfl
  | false =>
   rw [hq] at hcall
   go_wp2_with (go_at_fn g;refine hcall.mono ?_;rintro e w' ⟨rfl,hb'⟩)
   go_roundg (xs.length - (kk + 1))
   case measure => omega
   case rel =>
    exact ⟨kk + 1,by go_num,by omega,by omega,⟨HB.out.trans (hb'.mono (a_r HB.out))⟩,⟨fun j hj hj2 => by
     by_cases e : j = kk
     ·subst e;rw [HY.out];exact hq
     exact HN.out j (by omega) hj2⟩⟩
def hasB (s c : Int) : Bool:=(b_z.f s c).getD false
theorem f_3 (s c : Int) : b_z.f s c = some (hasB s c):=by
 unfold hasB
 have : ∃ b,b_z.f s c = some b:=by
  unfold b_z.f b_A.f
  (repeat' split) <;> first|exact ⟨_,rfl⟩|omega
 obtain ⟨b,hb⟩:=this
 rw [hb];rfl
set_option maxHeartbeats 2000000 in
theorem f_I.calls (g : Nat) (s a1 : Int) (w : World) (hb : w.heap[g]? = some (.cells #[.int .i64 a1] 3 (0,0))) :
 Calls Tryd.prog 29 (#[.int .u32 s] ++ #[.pointer (some ⟨g,0,none⟩)]) w fun e w' => e = .returned (.bool (hasB s a1)) ∧ Below w.heap.size w w':=by
 have hc:=(a_h hb 0).trans rfl
 have hf:=a_f hb 0
 clear hb
 have hH:=a_a.mk (f_3 s a1)
 go_enter Tryd.func29,Tryd.ntmps29
 go_wp2_with (go_at_call 30;refine (b_z.calls s a1 _ _ hH.out).mono ?_;rintro e w' ⟨rfl,hb⟩)
 go_ret
 exact ⟨rfl,hb.below⟩
def a_I.f (l0 : List Int) (a : Int) : Option Int:=if l0.length ≤ 35184372088832 then some (idxOf (fun s => hasB s a) l0) else none
theorem a_I.calls (A0 : Option Addr) (c0 : Nat) (l0 : List Int) (g : Nat) (a : Int) (r : Int) (w : World) (hr0 : Kd.C (Kd.int .u32) w A0 l0.length l0) (hc0 : l0.length ≤ c0) (hb : w.heap[g]? = some (.cells #[.int .i64 a] 3 (0,0))) (h : a_I.f l0 a = some r) :
 Calls Tryd.prog 28 #[.slice A0 l0.length c0,.func (.func 29) #[] #[.pointer (some ⟨g,0,none⟩)]] w fun e w' => e = .returned (.int .i64 r) ∧ Below w.heap.size w w':=by
 unfold a_I.f at h
 split at h
 case isFalse => cases h
 case isTrue hl =>
 obtain rfl:=Option.some.inj h
 exact c_n.any 29 _ (c_2 Tryd.func29 (by kernel_rfl) rfl) _ A0 c0 l0 w hr0 hl (fun W hW x _ => f_I.calls g x a W ((hW.block _ (a_k hb)).trans hb))
end Go.Proofs.YtkhbffjfclepfaaDoor.Q
end
section
namespace Go.Proofs.YtkhbffjfclepfaaDoor.Q
open Go.RowKit Go.Proofs.YtkhbffjfclepfaaDoorW.PrintWords Go.Proofs.YtkhbffjfclepfaaDoorW.PrintLast Go.Proofs.YtkhbffjfclepfaaDoorW.PrintMore
set_option linter.unusedVariables false
set_option linter.unusedSimpArgs false
def a_3.f (k : Nat) (l0_0 : List Int) (a1 : Int) : Option (Int × Bool):=(a_I.f l0_0 a1).bind fun t163 => ((a_n.f k l0_0).bind fun t164 => (if t164 = 0 then (if t163 < 0 then (some (0,false)) else (some (t163,true))) else (some (0,false))))
theorem a_3.mono : ∀ a0 a1 k,LeO (a_3.f k a0 a1) (a_3.f (k + 1) a0 a1):=by
 intro a0 a1 k
 unfold a_3.f
 repeat' first
  | (with_reducible exact a_n.mono _ _)
  | (with_reducible exact LeO.refl _)
  | (with_reducible exact LeO.none _)
  | (with_reducible refine LeO.ite ?_ ?_)
  | (with_reducible refine LeO.bind ?_ (fun _ => ?_))
  | exact a_n.mono _ _
  | exact LeO.none _
  | refine LeO.ite ?_ ?_
  | refine LeO.bind ?_ (fun _ => ?_)
set_option maxHeartbeats 8000000 in
set_option maxRecDepth 100000 in
theorem a_3.calls (k : Nat) (A0_0 : Option Addr) (c0_0 : Nat) (l0_0 : List Int) (a1 : Int) (r1 : Int) (r2 : Bool) (w : World) (hr0_0 : Kd.C (Kd.int .u32) w A0_0 l0_0.length l0_0) (hc0_0 : l0_0.length ≤ c0_0) (h : a_3.f k l0_0 a1 = some (r1,r2)) :
 Calls Tryd.prog 16 #[.agg #[.slice A0_0 l0_0.length c0_0],.int .i64 a1] w fun e w' => e = .returned (.tuple #[.int .i64 r1,.bool r2]) ∧ Below w.heap.size w w':=by
 have hu26:=Tryd.underlying26
 have b_G:=a_a.mk hr0_0
 have b_U:=a_a.mk hc0_0
 clear hr0_0 hc0_0
 have HB:=a_a.mk (Below.refl w.heap.size w)
 have H : ((a_I.f l0_0 a1).bind fun t163 => ((a_n.f k l0_0).bind fun t164 => (if t164 = 0 then (if t163 < 0 then (some (0,false)) else (some (t163,true))) else (some (0,false))))) = some (r1,r2):=h
 clear h
 replace H:=Option.bind_eq_some_iff.mp H
 obtain ⟨t163,A30,H⟩:=H
 replace H : ((a_n.f k l0_0).bind fun t164 => (if t164 = 0 then (if t163 < 0 then (some (0,false)) else (some (t163,true))) else (some (0,false)))) = some (r1,r2):=H
 have A3:=a_a.mk A30
 clear A30
 replace H:=Option.bind_eq_some_iff.mp H
 obtain ⟨t164,A40,H⟩:=H
 replace H : (if t164 = 0 then (if t163 < 0 then (some (0,false)) else (some (t163,true))) else (some (0,false))) = some (r1,r2):=H
 have A4:=a_a.mk A40
 clear A40
 by_cases c5 : t164 = 0
 rotate_left
 ·rw [if_neg c5] at H
  have c5b0 : (t164 == 0) = false:=beq_eq_false_iff_ne.mpr c5
  have c5b1 : (t164 != 0) = true:=bne_iff_ne.mpr c5
  simp only [Option.some.injEq,Prod.mk.injEq] at H
  obtain ⟨rfl,rfl⟩:=H
  go_enter Tryd.func16,Tryd.ntmps16
  go_wp2_with (first|((with_reducible refine a_u (N:=2) rfl ?_);refine a_t ?hg (N:=2) ?hd (cs:=#[.slice A0_0 l0_0.length c0_0]) (t:=26) ?hr ?_;(case hd => rfl);(case hg => rfl);(case hr => first|(go_simp;done)|(go_simp;rfl));intro c_a hg w21 hbox hb;have b_o:=a_a.mk (hbox);have g_3:=a_a.mk ((by rw [hg];exact (a_r (lup_ HB.out)) : w.heap.size ≤ c_a));have c_b:=a_a.mk ((by rw [hg];exact (a_r (lup_ HB.out)) : w.heap.size ≤ c_a));replace HB:=a_a.mk (a_i (lup_ HB.out) hb);clear hb hbox hg)|((with_reducible refine a_u (N:=3) rfl ?_);refine a_t ?hg (N:=3) ?hd (cs:=#[.int .i64 a1]) (t:=3) ?hr ?_;(case hd => rfl);(case hg => rfl);(case hr => first|(go_simp;done)|(go_simp;rfl));intro c_c hg w22 hbox hb;have c_s:=a_a.mk (hbox);have g_4:=a_a.mk ((by rw [hg];exact (a_r (by repeat (first|(with_reducible first|exact HB.out|apply a_e|apply a_c|apply a_g|refine a_d ?_ c_b.out)|exact HB.out))) : w.heap.size ≤ c_c));have d_n:=a_a.mk ((by rw [hg];exact (a_r (by repeat (first|(with_reducible first|exact HB.out|apply a_e|apply a_c|apply a_g|refine a_d ?_ c_b.out)|exact HB.out))) : w.heap.size ≤ c_c));have c_t:=a_a.mk ((by rw [hg];exact Nat.ne_of_lt (a_k (bup_ b_o.out)) : c_a ≠ c_c));have c_u:=a_a.mk ((by rw [hg];exact Nat.ne_of_gt (a_k (bup_ b_o.out)) : c_c ≠ c_a));replace b_o:=a_a.mk (a_b (bup_ b_o.out) hb);replace HB:=a_a.mk (a_i (by repeat (first|(with_reducible first|exact HB.out|apply a_e|apply a_c|apply a_g|refine a_d ?_ c_b.out)|exact HB.out)) hb);clear hb hbox hg;have h_y:=c_t.out;have h_z:=c_u.out;have h_A : w22.cell? ⟨c_a,0,none⟩ = some (.slice A0_0 l0_0.length c0_0):=(a_h b_o.out 0).trans rfl;have h_B:=a_f b_o.out 0)|((with_reducible refine a_x (f:=28) rfl ?_);refine a_Y (some 10) rfl rfl Tryd.func28 (by kernel_rfl) rfl #[.slice A0_0 l0_0.length c0_0,.func (.func 29) #[] #[.pointer (some ⟨c_c,0,none⟩)]] rfl (by (try simp only [List.map_toArray,List.map_cons,List.map_nil]);first|done|rfl|(simp only [List.length_drop,List.length_take];rfl)) ?_;(with_reducible refine (a_I.calls _ _ l0_0 c_c a1 t163 _ ?side1 ?side2 ?side3 A3.out).mono ?_);(case side1 => repeat (first|exact (Kd.a_K b_G.out HB.out)|(with_reducible refine Kd.a_4 ?_ _)|(with_reducible refine Kd.a_6 ?_ _)|(with_reducible refine Kd.b_a ?_)));(case side2 => exact b_U.out);(case side3 => exact (bup_ c_s.out));rintro e w25 ⟨rfl,hb⟩;refine ⟨_,rfl,?_⟩;replace b_o:=a_a.mk (a_b (bup_ b_o.out) hb);replace c_s:=a_a.mk (a_b (bup_ c_s.out) hb);replace HB:=a_a.mk (a_i (by repeat (first|(with_reducible first|exact HB.out|apply a_e|apply a_c|apply a_g|refine a_d ?_ c_b.out|refine a_d ?_ d_n.out)|exact HB.out)) hb);(try clear hb);(try clear hb2);(try clear hk);(try clear hi);have h_C : w25.cell? ⟨c_a,0,none⟩ = some (.slice A0_0 l0_0.length c0_0):=(a_h b_o.out 0).trans rfl;have h_D:=a_f b_o.out 0)|((with_reducible refine a_x (f:=12) rfl ?_);refine a_Y (some 12) rfl rfl Tryd.func12 (by kernel_rfl) rfl #[.agg #[.slice A0_0 l0_0.length c0_0]] rfl (by (try simp only [List.map_toArray,List.map_cons,List.map_nil]);first|done|rfl|(simp only [List.length_drop,List.length_take];rfl)) ?_;(with_reducible refine (a_n.calls k _ _ l0_0 t164 _ ?side1 ?side2 A4.out).mono ?_);(case side1 => repeat (first|exact (Kd.a_K b_G.out HB.out)|(with_reducible refine Kd.a_4 ?_ _)|(with_reducible refine Kd.a_6 ?_ _)|(with_reducible refine Kd.b_a ?_)));(case side2 => exact b_U.out);rintro e w27 ⟨rfl,hb⟩;refine ⟨_,rfl,?_⟩;replace b_o:=a_a.mk (a_b (bup_ b_o.out) hb);replace c_s:=a_a.mk (a_b (bup_ c_s.out) hb);replace HB:=a_a.mk (a_i (by repeat (first|(with_reducible first|exact HB.out|apply a_e|apply a_c|apply a_g|refine a_d ?_ c_b.out|refine a_d ?_ d_n.out)|exact HB.out)) hb);(try clear hb);(try clear hb2);(try clear hk);(try clear hi)))
  go_ret2
  exact ⟨by first|rfl|(simp [a_y,a_z] <;> rfl)|(simp [*, a_y,a_z] <;> rfl),by repeat (first|(with_reducible first|exact HB.out|apply a_e|apply a_c|apply a_g|refine a_d ?_ c_b.out|refine a_d ?_ d_n.out)|exact HB.out)⟩
 rw [if_pos c5] at H
 have c5b0 : (t164 == 0) = true:=beq_iff_eq.mpr c5
 have c5b1 : (t164 != 0) = false:=bne_eq_false_iff_eq.mpr c5
 clear c5
 by_cases c6 : t163 < 0
 ·rw [if_pos c6] at H
  have c6b0 : decide (t163 < 0) = true:=decide_eq_true c6
  clear c6
  simp only [Option.some.injEq,Prod.mk.injEq] at H
  obtain ⟨rfl,rfl⟩:=H
  go_enter Tryd.func16,Tryd.ntmps16
  go_wp2_with (first|((with_reducible refine a_u (N:=2) rfl ?_);refine a_t ?hg (N:=2) ?hd (cs:=#[.slice A0_0 l0_0.length c0_0]) (t:=26) ?hr ?_;(case hd => rfl);(case hg => rfl);(case hr => first|(go_simp;done)|(go_simp;rfl));intro c_a hg w7 hbox hb;have b_o:=a_a.mk (hbox);have g_3:=a_a.mk ((by rw [hg];exact (a_r (lup_ HB.out)) : w.heap.size ≤ c_a));have c_b:=a_a.mk ((by rw [hg];exact (a_r (lup_ HB.out)) : w.heap.size ≤ c_a));replace HB:=a_a.mk (a_i (lup_ HB.out) hb);clear hb hbox hg)|((with_reducible refine a_u (N:=3) rfl ?_);refine a_t ?hg (N:=3) ?hd (cs:=#[.int .i64 a1]) (t:=3) ?hr ?_;(case hd => rfl);(case hg => rfl);(case hr => first|(go_simp;done)|(go_simp;rfl));intro c_c hg w8 hbox hb;have c_s:=a_a.mk (hbox);have g_4:=a_a.mk ((by rw [hg];exact (a_r (by repeat (first|(with_reducible first|exact HB.out|apply a_e|apply a_c|apply a_g|refine a_d ?_ c_b.out)|exact HB.out))) : w.heap.size ≤ c_c));have d_n:=a_a.mk ((by rw [hg];exact (a_r (by repeat (first|(with_reducible first|exact HB.out|apply a_e|apply a_c|apply a_g|refine a_d ?_ c_b.out)|exact HB.out))) : w.heap.size ≤ c_c));have c_t:=a_a.mk ((by rw [hg];exact Nat.ne_of_lt (a_k (bup_ b_o.out)) : c_a ≠ c_c));have c_u:=a_a.mk ((by rw [hg];exact Nat.ne_of_gt (a_k (bup_ b_o.out)) : c_c ≠ c_a));replace b_o:=a_a.mk (a_b (bup_ b_o.out) hb);replace HB:=a_a.mk (a_i (by repeat (first|(with_reducible first|exact HB.out|apply a_e|apply a_c|apply a_g|refine a_d ?_ c_b.out)|exact HB.out)) hb);clear hb hbox hg;have hnb9:=c_t.out;have hnc9:=c_u.out;have g_o : w8.cell? ⟨c_a,0,none⟩ = some (.slice A0_0 l0_0.length c0_0):=(a_h b_o.out 0).trans rfl;have g_p:=a_f b_o.out 0)|((with_reducible refine a_x (f:=28) rfl ?_);refine a_Y (some 10) rfl rfl Tryd.func28 (by kernel_rfl) rfl #[.slice A0_0 l0_0.length c0_0,.func (.func 29) #[] #[.pointer (some ⟨c_c,0,none⟩)]] rfl (by (try simp only [List.map_toArray,List.map_cons,List.map_nil]);first|done|rfl|(simp only [List.length_drop,List.length_take];rfl)) ?_;(with_reducible refine (a_I.calls _ _ l0_0 c_c a1 t163 _ ?side1 ?side2 ?side3 A3.out).mono ?_);(case side1 => repeat (first|exact (Kd.a_K b_G.out HB.out)|(with_reducible refine Kd.a_4 ?_ _)|(with_reducible refine Kd.a_6 ?_ _)|(with_reducible refine Kd.b_a ?_)));(case side2 => exact b_U.out);(case side3 => exact (bup_ c_s.out));rintro e w11 ⟨rfl,hb⟩;refine ⟨_,rfl,?_⟩;replace b_o:=a_a.mk (a_b (bup_ b_o.out) hb);replace c_s:=a_a.mk (a_b (bup_ c_s.out) hb);replace HB:=a_a.mk (a_i (by repeat (first|(with_reducible first|exact HB.out|apply a_e|apply a_c|apply a_g|refine a_d ?_ c_b.out|refine a_d ?_ d_n.out)|exact HB.out)) hb);(try clear hb);(try clear hb2);(try clear hk);(try clear hi);have d_R : w11.cell? ⟨c_a,0,none⟩ = some (.slice A0_0 l0_0.length c0_0):=(a_h b_o.out 0).trans rfl;have d_S:=a_f b_o.out 0)|((with_reducible refine a_x (f:=12) rfl ?_);refine a_Y (some 12) rfl rfl Tryd.func12 (by kernel_rfl) rfl #[.agg #[.slice A0_0 l0_0.length c0_0]] rfl (by (try simp only [List.map_toArray,List.map_cons,List.map_nil]);first|done|rfl|(simp only [List.length_drop,List.length_take];rfl)) ?_;(with_reducible refine (a_n.calls k _ _ l0_0 t164 _ ?side1 ?side2 A4.out).mono ?_);(case side1 => repeat (first|exact (Kd.a_K b_G.out HB.out)|(with_reducible refine Kd.a_4 ?_ _)|(with_reducible refine Kd.a_6 ?_ _)|(with_reducible refine Kd.b_a ?_)));(case side2 => exact b_U.out);rintro e w13 ⟨rfl,hb⟩;refine ⟨_,rfl,?_⟩;replace b_o:=a_a.mk (a_b (bup_ b_o.out) hb);replace c_s:=a_a.mk (a_b (bup_ c_s.out) hb);replace HB:=a_a.mk (a_i (by repeat (first|(with_reducible first|exact HB.out|apply a_e|apply a_c|apply a_g|refine a_d ?_ c_b.out|refine a_d ?_ d_n.out)|exact HB.out)) hb);(try clear hb);(try clear hb2);(try clear hk);(try clear hi)))
  go_ret2
  exact ⟨by first|rfl|(simp [a_y,a_z] <;> rfl)|(simp [*, a_y,a_z] <;> rfl),by repeat (first|(with_reducible first|exact HB.out|apply a_e|apply a_c|apply a_g|refine a_d ?_ c_b.out|refine a_d ?_ d_n.out)|exact HB.out)⟩
 rw [if_neg c6] at H
 have c6b0 : decide (t163 < 0) = false:=decide_eq_false c6
 clear c6
 simp only [Option.some.injEq,Prod.mk.injEq] at H
 obtain ⟨rfl,rfl⟩:=H
 go_enter Tryd.func16,Tryd.ntmps16
 go_wp2_with (first|((with_reducible refine a_u (N:=2) rfl ?_);refine a_t ?hg (N:=2) ?hd (cs:=#[.slice A0_0 l0_0.length c0_0]) (t:=26) ?hr ?_;(case hd => rfl);(case hg => rfl);(case hr => first|(go_simp;done)|(go_simp;rfl));intro c_a hg w14 hbox hb;have b_o:=a_a.mk (hbox);have g_3:=a_a.mk ((by rw [hg];exact (a_r (lup_ HB.out)) : w.heap.size ≤ c_a));have c_b:=a_a.mk ((by rw [hg];exact (a_r (lup_ HB.out)) : w.heap.size ≤ c_a));replace HB:=a_a.mk (a_i (lup_ HB.out) hb);clear hb hbox hg)|((with_reducible refine a_u (N:=3) rfl ?_);refine a_t ?hg (N:=3) ?hd (cs:=#[.int .i64 a1]) (t:=3) ?hr ?_;(case hd => rfl);(case hg => rfl);(case hr => first|(go_simp;done)|(go_simp;rfl));intro c_c hg w15 hbox hb;have c_s:=a_a.mk (hbox);have g_4:=a_a.mk ((by rw [hg];exact (a_r (by repeat (first|(with_reducible first|exact HB.out|apply a_e|apply a_c|apply a_g|refine a_d ?_ c_b.out)|exact HB.out))) : w.heap.size ≤ c_c));have d_n:=a_a.mk ((by rw [hg];exact (a_r (by repeat (first|(with_reducible first|exact HB.out|apply a_e|apply a_c|apply a_g|refine a_d ?_ c_b.out)|exact HB.out))) : w.heap.size ≤ c_c));have c_t:=a_a.mk ((by rw [hg];exact Nat.ne_of_lt (a_k (bup_ b_o.out)) : c_a ≠ c_c));have c_u:=a_a.mk ((by rw [hg];exact Nat.ne_of_gt (a_k (bup_ b_o.out)) : c_c ≠ c_a));replace b_o:=a_a.mk (a_b (bup_ b_o.out) hb);replace HB:=a_a.mk (a_i (by repeat (first|(with_reducible first|exact HB.out|apply a_e|apply a_c|apply a_g|refine a_d ?_ c_b.out)|exact HB.out)) hb);clear hb hbox hg;have h_E:=c_t.out;have h_F:=c_u.out;have e_r : w15.cell? ⟨c_a,0,none⟩ = some (.slice A0_0 l0_0.length c0_0):=(a_h b_o.out 0).trans rfl;have e_s:=a_f b_o.out 0)|((with_reducible refine a_x (f:=28) rfl ?_);refine a_Y (some 10) rfl rfl Tryd.func28 (by kernel_rfl) rfl #[.slice A0_0 l0_0.length c0_0,.func (.func 29) #[] #[.pointer (some ⟨c_c,0,none⟩)]] rfl (by (try simp only [List.map_toArray,List.map_cons,List.map_nil]);first|done|rfl|(simp only [List.length_drop,List.length_take];rfl)) ?_;(with_reducible refine (a_I.calls _ _ l0_0 c_c a1 t163 _ ?side1 ?side2 ?side3 A3.out).mono ?_);(case side1 => repeat (first|exact (Kd.a_K b_G.out HB.out)|(with_reducible refine Kd.a_4 ?_ _)|(with_reducible refine Kd.a_6 ?_ _)|(with_reducible refine Kd.b_a ?_)));(case side2 => exact b_U.out);(case side3 => exact (bup_ c_s.out));rintro e w18 ⟨rfl,hb⟩;refine ⟨_,rfl,?_⟩;replace b_o:=a_a.mk (a_b (bup_ b_o.out) hb);replace c_s:=a_a.mk (a_b (bup_ c_s.out) hb);replace HB:=a_a.mk (a_i (by repeat (first|(with_reducible first|exact HB.out|apply a_e|apply a_c|apply a_g|refine a_d ?_ c_b.out|refine a_d ?_ d_n.out)|exact HB.out)) hb);(try clear hb);(try clear hb2);(try clear hk);(try clear hi);have f_q : w18.cell? ⟨c_a,0,none⟩ = some (.slice A0_0 l0_0.length c0_0):=(a_h b_o.out 0).trans rfl;have f_r:=a_f b_o.out 0)|((with_reducible refine a_x (f:=12) rfl ?_);refine a_Y (some 12) rfl rfl Tryd.func12 (by kernel_rfl) rfl #[.agg #[.slice A0_0 l0_0.length c0_0]] rfl (by (try simp only [List.map_toArray,List.map_cons,List.map_nil]);first|done|rfl|(simp only [List.length_drop,List.length_take];rfl)) ?_;(with_reducible refine (a_n.calls k _ _ l0_0 t164 _ ?side1 ?side2 A4.out).mono ?_);(case side1 => repeat (first|exact (Kd.a_K b_G.out HB.out)|(with_reducible refine Kd.a_4 ?_ _)|(with_reducible refine Kd.a_6 ?_ _)|(with_reducible refine Kd.b_a ?_)));(case side2 => exact b_U.out);rintro e w20 ⟨rfl,hb⟩;refine ⟨_,rfl,?_⟩;replace b_o:=a_a.mk (a_b (bup_ b_o.out) hb);replace c_s:=a_a.mk (a_b (bup_ c_s.out) hb);replace HB:=a_a.mk (a_i (by repeat (first|(with_reducible first|exact HB.out|apply a_e|apply a_c|apply a_g|refine a_d ?_ c_b.out|refine a_d ?_ d_n.out)|exact HB.out)) hb);(try clear hb);(try clear hb2);(try clear hk);(try clear hi)))
 go_ret2
 exact ⟨by first|rfl|(simp [a_y,a_z] <;> rfl)|(simp [*, a_y,a_z] <;> rfl),by repeat (first|(with_reducible first|exact HB.out|apply a_e|apply a_c|apply a_g|refine a_d ?_ c_b.out|refine a_d ?_ d_n.out)|exact HB.out)⟩
end Go.Proofs.YtkhbffjfclepfaaDoor.Q
end
section
namespace Go.Proofs.YtkhbffjfclepfaaDoor.Q
open Go.RowKit Go.Proofs.YtkhbffjfclepfaaDoorW.PrintWords Go.Proofs.YtkhbffjfclepfaaDoorW.PrintLast Go.Proofs.YtkhbffjfclepfaaDoorW.PrintMore
set_option linter.unusedVariables false
set_option linter.unusedSimpArgs false
def b_n.f (a0 : Int) : Option (Int):=if 0 ≤ (a0 / 16777216) then (if (a0 / 16777216) < 256 then (if 0 ≤ (Go.bits .and .u32 (a0 / 65536) 255) then (if (Go.bits .and .u32 (a0 / 65536) 255) < 256 then (if 0 ≤ (Go.bits .and .u32 (a0 / 256) 255) then (if (Go.bits .and .u32 (a0 / 256) 255) < 256 then (if 0 ≤ (Go.bits .and .u32 a0 255) then (if (Go.bits .and .u32 a0 255) < 256 then (some (((((((bt (⟨#[0,1,1,2,1,2,2,3,1,2,2,3,2,3,3,4,1,2,2,3,2,3,3,4,2,3,3,4,3,4,4,5,1,2,2,3,2,3,3,4,2,3,3,4,3,4,4,5,2,3,3,4,3,4,4,5,3,4,4,5,4,5,5,6,1,2,2,3,2,3,3,4,2,3,3,4,3,4,4,5,2,3,3,4,3,4,4,5,3,4,4,5,4,5,5,6,2,3,3,4,3,4,4,5,3,4,4,5,4,5,5,6,3,4,4,5,4,5,5,6,4,5,5,6,5,6,6,7,1,2,2,3,2,3,3,4,2,3,3,4,3,4,4,5,2,3,3,4,3,4,4,5,3,4,4,5,4,5,5,6,2,3,3,4,3,4,4,5,3,4,4,5,4,5,5,6,3,4,4,5,4,5,5,6,4,5,5,6,5,6,6,7,2,3,3,4,3,4,4,5,3,4,4,5,4,5,5,6,3,4,4,5,4,5,5,6,4,5,5,6,5,6,6,7,3,4,4,5,4,5,5,6,4,5,5,6,5,6,6,7,4,5,5,6,5,6,6,7,5,6,6,7,6,7,7,8]⟩ : ByteArray) (a0 / 16777216)) + (bt (⟨#[0,1,1,2,1,2,2,3,1,2,2,3,2,3,3,4,1,2,2,3,2,3,3,4,2,3,3,4,3,4,4,5,1,2,2,3,2,3,3,4,2,3,3,4,3,4,4,5,2,3,3,4,3,4,4,5,3,4,4,5,4,5,5,6,1,2,2,3,2,3,3,4,2,3,3,4,3,4,4,5,2,3,3,4,3,4,4,5,3,4,4,5,4,5,5,6,2,3,3,4,3,4,4,5,3,4,4,5,4,5,5,6,3,4,4,5,4,5,5,6,4,5,5,6,5,6,6,7,1,2,2,3,2,3,3,4,2,3,3,4,3,4,4,5,2,3,3,4,3,4,4,5,3,4,4,5,4,5,5,6,2,3,3,4,3,4,4,5,3,4,4,5,4,5,5,6,3,4,4,5,4,5,5,6,4,5,5,6,5,6,6,7,2,3,3,4,3,4,4,5,3,4,4,5,4,5,5,6,3,4,4,5,4,5,5,6,4,5,5,6,5,6,6,7,3,4,4,5,4,5,5,6,4,5,5,6,5,6,6,7,4,5,5,6,5,6,6,7,5,6,6,7,6,7,7,8]⟩ : ByteArray) (Go.bits .and .u32 (a0 / 65536) 255))) % 256) + (bt (⟨#[0,1,1,2,1,2,2,3,1,2,2,3,2,3,3,4,1,2,2,3,2,3,3,4,2,3,3,4,3,4,4,5,1,2,2,3,2,3,3,4,2,3,3,4,3,4,4,5,2,3,3,4,3,4,4,5,3,4,4,5,4,5,5,6,1,2,2,3,2,3,3,4,2,3,3,4,3,4,4,5,2,3,3,4,3,4,4,5,3,4,4,5,4,5,5,6,2,3,3,4,3,4,4,5,3,4,4,5,4,5,5,6,3,4,4,5,4,5,5,6,4,5,5,6,5,6,6,7,1,2,2,3,2,3,3,4,2,3,3,4,3,4,4,5,2,3,3,4,3,4,4,5,3,4,4,5,4,5,5,6,2,3,3,4,3,4,4,5,3,4,4,5,4,5,5,6,3,4,4,5,4,5,5,6,4,5,5,6,5,6,6,7,2,3,3,4,3,4,4,5,3,4,4,5,4,5,5,6,3,4,4,5,4,5,5,6,4,5,5,6,5,6,6,7,3,4,4,5,4,5,5,6,4,5,5,6,5,6,6,7,4,5,5,6,5,6,6,7,5,6,6,7,6,7,7,8]⟩ : ByteArray) (Go.bits .and .u32 (a0 / 256) 255))) % 256) + (bt (⟨#[0,1,1,2,1,2,2,3,1,2,2,3,2,3,3,4,1,2,2,3,2,3,3,4,2,3,3,4,3,4,4,5,1,2,2,3,2,3,3,4,2,3,3,4,3,4,4,5,2,3,3,4,3,4,4,5,3,4,4,5,4,5,5,6,1,2,2,3,2,3,3,4,2,3,3,4,3,4,4,5,2,3,3,4,3,4,4,5,3,4,4,5,4,5,5,6,2,3,3,4,3,4,4,5,3,4,4,5,4,5,5,6,3,4,4,5,4,5,5,6,4,5,5,6,5,6,6,7,1,2,2,3,2,3,3,4,2,3,3,4,3,4,4,5,2,3,3,4,3,4,4,5,3,4,4,5,4,5,5,6,2,3,3,4,3,4,4,5,3,4,4,5,4,5,5,6,3,4,4,5,4,5,5,6,4,5,5,6,5,6,6,7,2,3,3,4,3,4,4,5,3,4,4,5,4,5,5,6,3,4,4,5,4,5,5,6,4,5,5,6,5,6,6,7,3,4,4,5,4,5,5,6,4,5,5,6,5,6,6,7,4,5,5,6,5,6,6,7,5,6,6,7,6,7,7,8]⟩ : ByteArray) (Go.bits .and .u32 a0 255))) % 256)) else (none)) else (none)) else (none)) else (none)) else (none)) else (none)) else (none)) else (none)
set_option maxHeartbeats 8000000 in
set_option maxRecDepth 100000 in
theorem b_n.calls (a0 : Int) (r : Int) (w : World) (h : b_n.f a0 = some r) :
 Calls Tryd.prog 31 #[.int .u32 a0] w fun e w' => e = .returned (.int .i64 r) ∧ a_2 w w':=by
 have H : (if 0 ≤ (a0 / 16777216) then (if (a0 / 16777216) < 256 then (if 0 ≤ (Go.bits .and .u32 (a0 / 65536) 255) then (if (Go.bits .and .u32 (a0 / 65536) 255) < 256 then (if 0 ≤ (Go.bits .and .u32 (a0 / 256) 255) then (if (Go.bits .and .u32 (a0 / 256) 255) < 256 then (if 0 ≤ (Go.bits .and .u32 a0 255) then (if (Go.bits .and .u32 a0 255) < 256 then (some (((((((bt (⟨#[0,1,1,2,1,2,2,3,1,2,2,3,2,3,3,4,1,2,2,3,2,3,3,4,2,3,3,4,3,4,4,5,1,2,2,3,2,3,3,4,2,3,3,4,3,4,4,5,2,3,3,4,3,4,4,5,3,4,4,5,4,5,5,6,1,2,2,3,2,3,3,4,2,3,3,4,3,4,4,5,2,3,3,4,3,4,4,5,3,4,4,5,4,5,5,6,2,3,3,4,3,4,4,5,3,4,4,5,4,5,5,6,3,4,4,5,4,5,5,6,4,5,5,6,5,6,6,7,1,2,2,3,2,3,3,4,2,3,3,4,3,4,4,5,2,3,3,4,3,4,4,5,3,4,4,5,4,5,5,6,2,3,3,4,3,4,4,5,3,4,4,5,4,5,5,6,3,4,4,5,4,5,5,6,4,5,5,6,5,6,6,7,2,3,3,4,3,4,4,5,3,4,4,5,4,5,5,6,3,4,4,5,4,5,5,6,4,5,5,6,5,6,6,7,3,4,4,5,4,5,5,6,4,5,5,6,5,6,6,7,4,5,5,6,5,6,6,7,5,6,6,7,6,7,7,8]⟩ : ByteArray) (a0 / 16777216)) + (bt (⟨#[0,1,1,2,1,2,2,3,1,2,2,3,2,3,3,4,1,2,2,3,2,3,3,4,2,3,3,4,3,4,4,5,1,2,2,3,2,3,3,4,2,3,3,4,3,4,4,5,2,3,3,4,3,4,4,5,3,4,4,5,4,5,5,6,1,2,2,3,2,3,3,4,2,3,3,4,3,4,4,5,2,3,3,4,3,4,4,5,3,4,4,5,4,5,5,6,2,3,3,4,3,4,4,5,3,4,4,5,4,5,5,6,3,4,4,5,4,5,5,6,4,5,5,6,5,6,6,7,1,2,2,3,2,3,3,4,2,3,3,4,3,4,4,5,2,3,3,4,3,4,4,5,3,4,4,5,4,5,5,6,2,3,3,4,3,4,4,5,3,4,4,5,4,5,5,6,3,4,4,5,4,5,5,6,4,5,5,6,5,6,6,7,2,3,3,4,3,4,4,5,3,4,4,5,4,5,5,6,3,4,4,5,4,5,5,6,4,5,5,6,5,6,6,7,3,4,4,5,4,5,5,6,4,5,5,6,5,6,6,7,4,5,5,6,5,6,6,7,5,6,6,7,6,7,7,8]⟩ : ByteArray) (Go.bits .and .u32 (a0 / 65536) 255))) % 256) + (bt (⟨#[0,1,1,2,1,2,2,3,1,2,2,3,2,3,3,4,1,2,2,3,2,3,3,4,2,3,3,4,3,4,4,5,1,2,2,3,2,3,3,4,2,3,3,4,3,4,4,5,2,3,3,4,3,4,4,5,3,4,4,5,4,5,5,6,1,2,2,3,2,3,3,4,2,3,3,4,3,4,4,5,2,3,3,4,3,4,4,5,3,4,4,5,4,5,5,6,2,3,3,4,3,4,4,5,3,4,4,5,4,5,5,6,3,4,4,5,4,5,5,6,4,5,5,6,5,6,6,7,1,2,2,3,2,3,3,4,2,3,3,4,3,4,4,5,2,3,3,4,3,4,4,5,3,4,4,5,4,5,5,6,2,3,3,4,3,4,4,5,3,4,4,5,4,5,5,6,3,4,4,5,4,5,5,6,4,5,5,6,5,6,6,7,2,3,3,4,3,4,4,5,3,4,4,5,4,5,5,6,3,4,4,5,4,5,5,6,4,5,5,6,5,6,6,7,3,4,4,5,4,5,5,6,4,5,5,6,5,6,6,7,4,5,5,6,5,6,6,7,5,6,6,7,6,7,7,8]⟩ : ByteArray) (Go.bits .and .u32 (a0 / 256) 255))) % 256) + (bt (⟨#[0,1,1,2,1,2,2,3,1,2,2,3,2,3,3,4,1,2,2,3,2,3,3,4,2,3,3,4,3,4,4,5,1,2,2,3,2,3,3,4,2,3,3,4,3,4,4,5,2,3,3,4,3,4,4,5,3,4,4,5,4,5,5,6,1,2,2,3,2,3,3,4,2,3,3,4,3,4,4,5,2,3,3,4,3,4,4,5,3,4,4,5,4,5,5,6,2,3,3,4,3,4,4,5,3,4,4,5,4,5,5,6,3,4,4,5,4,5,5,6,4,5,5,6,5,6,6,7,1,2,2,3,2,3,3,4,2,3,3,4,3,4,4,5,2,3,3,4,3,4,4,5,3,4,4,5,4,5,5,6,2,3,3,4,3,4,4,5,3,4,4,5,4,5,5,6,3,4,4,5,4,5,5,6,4,5,5,6,5,6,6,7,2,3,3,4,3,4,4,5,3,4,4,5,4,5,5,6,3,4,4,5,4,5,5,6,4,5,5,6,5,6,6,7,3,4,4,5,4,5,5,6,4,5,5,6,5,6,6,7,4,5,5,6,5,6,6,7,5,6,6,7,6,7,7,8]⟩ : ByteArray) (Go.bits .and .u32 a0 255))) % 256)) else (none)) else (none)) else (none)) else (none)) else (none)) else (none)) else (none)) else (none)) = some r:=h
 clear h
 obtain ⟨ji2,hji2⟩ : ∃ j_ : Int,(a0 / 16777216) = j_:=⟨_,rfl⟩
 replace H : (if 0 ≤ (ji2) then (if (ji2) < 256 then (if 0 ≤ (Go.bits .and .u32 (a0 / 65536) 255) then (if (Go.bits .and .u32 (a0 / 65536) 255) < 256 then (if 0 ≤ (Go.bits .and .u32 (a0 / 256) 255) then (if (Go.bits .and .u32 (a0 / 256) 255) < 256 then (if 0 ≤ (Go.bits .and .u32 a0 255) then (if (Go.bits .and .u32 a0 255) < 256 then (some (((((((bt (⟨#[0,1,1,2,1,2,2,3,1,2,2,3,2,3,3,4,1,2,2,3,2,3,3,4,2,3,3,4,3,4,4,5,1,2,2,3,2,3,3,4,2,3,3,4,3,4,4,5,2,3,3,4,3,4,4,5,3,4,4,5,4,5,5,6,1,2,2,3,2,3,3,4,2,3,3,4,3,4,4,5,2,3,3,4,3,4,4,5,3,4,4,5,4,5,5,6,2,3,3,4,3,4,4,5,3,4,4,5,4,5,5,6,3,4,4,5,4,5,5,6,4,5,5,6,5,6,6,7,1,2,2,3,2,3,3,4,2,3,3,4,3,4,4,5,2,3,3,4,3,4,4,5,3,4,4,5,4,5,5,6,2,3,3,4,3,4,4,5,3,4,4,5,4,5,5,6,3,4,4,5,4,5,5,6,4,5,5,6,5,6,6,7,2,3,3,4,3,4,4,5,3,4,4,5,4,5,5,6,3,4,4,5,4,5,5,6,4,5,5,6,5,6,6,7,3,4,4,5,4,5,5,6,4,5,5,6,5,6,6,7,4,5,5,6,5,6,6,7,5,6,6,7,6,7,7,8]⟩ : ByteArray) (ji2)) + (bt (⟨#[0,1,1,2,1,2,2,3,1,2,2,3,2,3,3,4,1,2,2,3,2,3,3,4,2,3,3,4,3,4,4,5,1,2,2,3,2,3,3,4,2,3,3,4,3,4,4,5,2,3,3,4,3,4,4,5,3,4,4,5,4,5,5,6,1,2,2,3,2,3,3,4,2,3,3,4,3,4,4,5,2,3,3,4,3,4,4,5,3,4,4,5,4,5,5,6,2,3,3,4,3,4,4,5,3,4,4,5,4,5,5,6,3,4,4,5,4,5,5,6,4,5,5,6,5,6,6,7,1,2,2,3,2,3,3,4,2,3,3,4,3,4,4,5,2,3,3,4,3,4,4,5,3,4,4,5,4,5,5,6,2,3,3,4,3,4,4,5,3,4,4,5,4,5,5,6,3,4,4,5,4,5,5,6,4,5,5,6,5,6,6,7,2,3,3,4,3,4,4,5,3,4,4,5,4,5,5,6,3,4,4,5,4,5,5,6,4,5,5,6,5,6,6,7,3,4,4,5,4,5,5,6,4,5,5,6,5,6,6,7,4,5,5,6,5,6,6,7,5,6,6,7,6,7,7,8]⟩ : ByteArray) (Go.bits .and .u32 (a0 / 65536) 255))) % 256) + (bt (⟨#[0,1,1,2,1,2,2,3,1,2,2,3,2,3,3,4,1,2,2,3,2,3,3,4,2,3,3,4,3,4,4,5,1,2,2,3,2,3,3,4,2,3,3,4,3,4,4,5,2,3,3,4,3,4,4,5,3,4,4,5,4,5,5,6,1,2,2,3,2,3,3,4,2,3,3,4,3,4,4,5,2,3,3,4,3,4,4,5,3,4,4,5,4,5,5,6,2,3,3,4,3,4,4,5,3,4,4,5,4,5,5,6,3,4,4,5,4,5,5,6,4,5,5,6,5,6,6,7,1,2,2,3,2,3,3,4,2,3,3,4,3,4,4,5,2,3,3,4,3,4,4,5,3,4,4,5,4,5,5,6,2,3,3,4,3,4,4,5,3,4,4,5,4,5,5,6,3,4,4,5,4,5,5,6,4,5,5,6,5,6,6,7,2,3,3,4,3,4,4,5,3,4,4,5,4,5,5,6,3,4,4,5,4,5,5,6,4,5,5,6,5,6,6,7,3,4,4,5,4,5,5,6,4,5,5,6,5,6,6,7,4,5,5,6,5,6,6,7,5,6,6,7,6,7,7,8]⟩ : ByteArray) (Go.bits .and .u32 (a0 / 256) 255))) % 256) + (bt (⟨#[0,1,1,2,1,2,2,3,1,2,2,3,2,3,3,4,1,2,2,3,2,3,3,4,2,3,3,4,3,4,4,5,1,2,2,3,2,3,3,4,2,3,3,4,3,4,4,5,2,3,3,4,3,4,4,5,3,4,4,5,4,5,5,6,1,2,2,3,2,3,3,4,2,3,3,4,3,4,4,5,2,3,3,4,3,4,4,5,3,4,4,5,4,5,5,6,2,3,3,4,3,4,4,5,3,4,4,5,4,5,5,6,3,4,4,5,4,5,5,6,4,5,5,6,5,6,6,7,1,2,2,3,2,3,3,4,2,3,3,4,3,4,4,5,2,3,3,4,3,4,4,5,3,4,4,5,4,5,5,6,2,3,3,4,3,4,4,5,3,4,4,5,4,5,5,6,3,4,4,5,4,5,5,6,4,5,5,6,5,6,6,7,2,3,3,4,3,4,4,5,3,4,4,5,4,5,5,6,3,4,4,5,4,5,5,6,4,5,5,6,5,6,6,7,3,4,4,5,4,5,5,6,4,5,5,6,5,6,6,7,4,5,5,6,5,6,6,7,5,6,6,7,6,7,7,8]⟩ : ByteArray) (Go.bits .and .u32 a0 255))) % 256)) else (none)) else (none)) else (none)) else (none)) else (none)) else (none)) else (none)) else (none)) = some r:=by first|(rw [hji2] at H;exact H)|(simp only [hji2] at H ⊢; exact H)
 by_cases c3 : 0 ≤ (ji2)
 rotate_left
 ·rw [if_neg c3] at H
  exact absurd H (by simp)
 rw [if_pos c3] at H
 have c3b0 : decide (0 ≤ (ji2)) = true:=decide_eq_true c3
 clear c3
 by_cases c4 : (ji2) < 256
 rotate_left
 ·rw [if_neg c4] at H
  exact absurd H (by simp)
 rw [if_pos c4] at H
 have c4b0 : decide ((ji2) < 256) = true:=decide_eq_true c4
 clear c4
 obtain ⟨ji6,hji6⟩ : ∃ j_ : Int,(Go.bits .and .u32 (a0 / 65536) 255) = j_:=⟨_,rfl⟩
 replace H : (if 0 ≤ (ji6) then (if (ji6) < 256 then (if 0 ≤ (Go.bits .and .u32 (a0 / 256) 255) then (if (Go.bits .and .u32 (a0 / 256) 255) < 256 then (if 0 ≤ (Go.bits .and .u32 a0 255) then (if (Go.bits .and .u32 a0 255) < 256 then (some (((((((bt (⟨#[0,1,1,2,1,2,2,3,1,2,2,3,2,3,3,4,1,2,2,3,2,3,3,4,2,3,3,4,3,4,4,5,1,2,2,3,2,3,3,4,2,3,3,4,3,4,4,5,2,3,3,4,3,4,4,5,3,4,4,5,4,5,5,6,1,2,2,3,2,3,3,4,2,3,3,4,3,4,4,5,2,3,3,4,3,4,4,5,3,4,4,5,4,5,5,6,2,3,3,4,3,4,4,5,3,4,4,5,4,5,5,6,3,4,4,5,4,5,5,6,4,5,5,6,5,6,6,7,1,2,2,3,2,3,3,4,2,3,3,4,3,4,4,5,2,3,3,4,3,4,4,5,3,4,4,5,4,5,5,6,2,3,3,4,3,4,4,5,3,4,4,5,4,5,5,6,3,4,4,5,4,5,5,6,4,5,5,6,5,6,6,7,2,3,3,4,3,4,4,5,3,4,4,5,4,5,5,6,3,4,4,5,4,5,5,6,4,5,5,6,5,6,6,7,3,4,4,5,4,5,5,6,4,5,5,6,5,6,6,7,4,5,5,6,5,6,6,7,5,6,6,7,6,7,7,8]⟩ : ByteArray) (ji2)) + (bt (⟨#[0,1,1,2,1,2,2,3,1,2,2,3,2,3,3,4,1,2,2,3,2,3,3,4,2,3,3,4,3,4,4,5,1,2,2,3,2,3,3,4,2,3,3,4,3,4,4,5,2,3,3,4,3,4,4,5,3,4,4,5,4,5,5,6,1,2,2,3,2,3,3,4,2,3,3,4,3,4,4,5,2,3,3,4,3,4,4,5,3,4,4,5,4,5,5,6,2,3,3,4,3,4,4,5,3,4,4,5,4,5,5,6,3,4,4,5,4,5,5,6,4,5,5,6,5,6,6,7,1,2,2,3,2,3,3,4,2,3,3,4,3,4,4,5,2,3,3,4,3,4,4,5,3,4,4,5,4,5,5,6,2,3,3,4,3,4,4,5,3,4,4,5,4,5,5,6,3,4,4,5,4,5,5,6,4,5,5,6,5,6,6,7,2,3,3,4,3,4,4,5,3,4,4,5,4,5,5,6,3,4,4,5,4,5,5,6,4,5,5,6,5,6,6,7,3,4,4,5,4,5,5,6,4,5,5,6,5,6,6,7,4,5,5,6,5,6,6,7,5,6,6,7,6,7,7,8]⟩ : ByteArray) (ji6))) % 256) + (bt (⟨#[0,1,1,2,1,2,2,3,1,2,2,3,2,3,3,4,1,2,2,3,2,3,3,4,2,3,3,4,3,4,4,5,1,2,2,3,2,3,3,4,2,3,3,4,3,4,4,5,2,3,3,4,3,4,4,5,3,4,4,5,4,5,5,6,1,2,2,3,2,3,3,4,2,3,3,4,3,4,4,5,2,3,3,4,3,4,4,5,3,4,4,5,4,5,5,6,2,3,3,4,3,4,4,5,3,4,4,5,4,5,5,6,3,4,4,5,4,5,5,6,4,5,5,6,5,6,6,7,1,2,2,3,2,3,3,4,2,3,3,4,3,4,4,5,2,3,3,4,3,4,4,5,3,4,4,5,4,5,5,6,2,3,3,4,3,4,4,5,3,4,4,5,4,5,5,6,3,4,4,5,4,5,5,6,4,5,5,6,5,6,6,7,2,3,3,4,3,4,4,5,3,4,4,5,4,5,5,6,3,4,4,5,4,5,5,6,4,5,5,6,5,6,6,7,3,4,4,5,4,5,5,6,4,5,5,6,5,6,6,7,4,5,5,6,5,6,6,7,5,6,6,7,6,7,7,8]⟩ : ByteArray) (Go.bits .and .u32 (a0 / 256) 255))) % 256) + (bt (⟨#[0,1,1,2,1,2,2,3,1,2,2,3,2,3,3,4,1,2,2,3,2,3,3,4,2,3,3,4,3,4,4,5,1,2,2,3,2,3,3,4,2,3,3,4,3,4,4,5,2,3,3,4,3,4,4,5,3,4,4,5,4,5,5,6,1,2,2,3,2,3,3,4,2,3,3,4,3,4,4,5,2,3,3,4,3,4,4,5,3,4,4,5,4,5,5,6,2,3,3,4,3,4,4,5,3,4,4,5,4,5,5,6,3,4,4,5,4,5,5,6,4,5,5,6,5,6,6,7,1,2,2,3,2,3,3,4,2,3,3,4,3,4,4,5,2,3,3,4,3,4,4,5,3,4,4,5,4,5,5,6,2,3,3,4,3,4,4,5,3,4,4,5,4,5,5,6,3,4,4,5,4,5,5,6,4,5,5,6,5,6,6,7,2,3,3,4,3,4,4,5,3,4,4,5,4,5,5,6,3,4,4,5,4,5,5,6,4,5,5,6,5,6,6,7,3,4,4,5,4,5,5,6,4,5,5,6,5,6,6,7,4,5,5,6,5,6,6,7,5,6,6,7,6,7,7,8]⟩ : ByteArray) (Go.bits .and .u32 a0 255))) % 256)) else (none)) else (none)) else (none)) else (none)) else (none)) else (none)) = some r:=by first|(rw [hji6] at H;exact H)|(simp only [hji6] at H ⊢; exact H)
 by_cases c7 : 0 ≤ (ji6)
 rotate_left
 ·rw [if_neg c7] at H
  exact absurd H (by simp)
 rw [if_pos c7] at H
 have c7b0 : decide (0 ≤ (ji6)) = true:=decide_eq_true c7
 clear c7
 by_cases c8 : (ji6) < 256
 rotate_left
 ·rw [if_neg c8] at H
  exact absurd H (by simp)
 rw [if_pos c8] at H
 have c8b0 : decide ((ji6) < 256) = true:=decide_eq_true c8
 clear c8
 obtain ⟨ji10,hji10⟩ : ∃ j_ : Int,(Go.bits .and .u32 (a0 / 256) 255) = j_:=⟨_,rfl⟩
 replace H : (if 0 ≤ (ji10) then (if (ji10) < 256 then (if 0 ≤ (Go.bits .and .u32 a0 255) then (if (Go.bits .and .u32 a0 255) < 256 then (some (((((((bt (⟨#[0,1,1,2,1,2,2,3,1,2,2,3,2,3,3,4,1,2,2,3,2,3,3,4,2,3,3,4,3,4,4,5,1,2,2,3,2,3,3,4,2,3,3,4,3,4,4,5,2,3,3,4,3,4,4,5,3,4,4,5,4,5,5,6,1,2,2,3,2,3,3,4,2,3,3,4,3,4,4,5,2,3,3,4,3,4,4,5,3,4,4,5,4,5,5,6,2,3,3,4,3,4,4,5,3,4,4,5,4,5,5,6,3,4,4,5,4,5,5,6,4,5,5,6,5,6,6,7,1,2,2,3,2,3,3,4,2,3,3,4,3,4,4,5,2,3,3,4,3,4,4,5,3,4,4,5,4,5,5,6,2,3,3,4,3,4,4,5,3,4,4,5,4,5,5,6,3,4,4,5,4,5,5,6,4,5,5,6,5,6,6,7,2,3,3,4,3,4,4,5,3,4,4,5,4,5,5,6,3,4,4,5,4,5,5,6,4,5,5,6,5,6,6,7,3,4,4,5,4,5,5,6,4,5,5,6,5,6,6,7,4,5,5,6,5,6,6,7,5,6,6,7,6,7,7,8]⟩ : ByteArray) (ji2)) + (bt (⟨#[0,1,1,2,1,2,2,3,1,2,2,3,2,3,3,4,1,2,2,3,2,3,3,4,2,3,3,4,3,4,4,5,1,2,2,3,2,3,3,4,2,3,3,4,3,4,4,5,2,3,3,4,3,4,4,5,3,4,4,5,4,5,5,6,1,2,2,3,2,3,3,4,2,3,3,4,3,4,4,5,2,3,3,4,3,4,4,5,3,4,4,5,4,5,5,6,2,3,3,4,3,4,4,5,3,4,4,5,4,5,5,6,3,4,4,5,4,5,5,6,4,5,5,6,5,6,6,7,1,2,2,3,2,3,3,4,2,3,3,4,3,4,4,5,2,3,3,4,3,4,4,5,3,4,4,5,4,5,5,6,2,3,3,4,3,4,4,5,3,4,4,5,4,5,5,6,3,4,4,5,4,5,5,6,4,5,5,6,5,6,6,7,2,3,3,4,3,4,4,5,3,4,4,5,4,5,5,6,3,4,4,5,4,5,5,6,4,5,5,6,5,6,6,7,3,4,4,5,4,5,5,6,4,5,5,6,5,6,6,7,4,5,5,6,5,6,6,7,5,6,6,7,6,7,7,8]⟩ : ByteArray) (ji6))) % 256) + (bt (⟨#[0,1,1,2,1,2,2,3,1,2,2,3,2,3,3,4,1,2,2,3,2,3,3,4,2,3,3,4,3,4,4,5,1,2,2,3,2,3,3,4,2,3,3,4,3,4,4,5,2,3,3,4,3,4,4,5,3,4,4,5,4,5,5,6,1,2,2,3,2,3,3,4,2,3,3,4,3,4,4,5,2,3,3,4,3,4,4,5,3,4,4,5,4,5,5,6,2,3,3,4,3,4,4,5,3,4,4,5,4,5,5,6,3,4,4,5,4,5,5,6,4,5,5,6,5,6,6,7,1,2,2,3,2,3,3,4,2,3,3,4,3,4,4,5,2,3,3,4,3,4,4,5,3,4,4,5,4,5,5,6,2,3,3,4,3,4,4,5,3,4,4,5,4,5,5,6,3,4,4,5,4,5,5,6,4,5,5,6,5,6,6,7,2,3,3,4,3,4,4,5,3,4,4,5,4,5,5,6,3,4,4,5,4,5,5,6,4,5,5,6,5,6,6,7,3,4,4,5,4,5,5,6,4,5,5,6,5,6,6,7,4,5,5,6,5,6,6,7,5,6,6,7,6,7,7,8]⟩ : ByteArray) (ji10))) % 256) + (bt (⟨#[0,1,1,2,1,2,2,3,1,2,2,3,2,3,3,4,1,2,2,3,2,3,3,4,2,3,3,4,3,4,4,5,1,2,2,3,2,3,3,4,2,3,3,4,3,4,4,5,2,3,3,4,3,4,4,5,3,4,4,5,4,5,5,6,1,2,2,3,2,3,3,4,2,3,3,4,3,4,4,5,2,3,3,4,3,4,4,5,3,4,4,5,4,5,5,6,2,3,3,4,3,4,4,5,3,4,4,5,4,5,5,6,3,4,4,5,4,5,5,6,4,5,5,6,5,6,6,7,1,2,2,3,2,3,3,4,2,3,3,4,3,4,4,5,2,3,3,4,3,4,4,5,3,4,4,5,4,5,5,6,2,3,3,4,3,4,4,5,3,4,4,5,4,5,5,6,3,4,4,5,4,5,5,6,4,5,5,6,5,6,6,7,2,3,3,4,3,4,4,5,3,4,4,5,4,5,5,6,3,4,4,5,4,5,5,6,4,5,5,6,5,6,6,7,3,4,4,5,4,5,5,6,4,5,5,6,5,6,6,7,4,5,5,6,5,6,6,7,5,6,6,7,6,7,7,8]⟩ : ByteArray) (Go.bits .and .u32 a0 255))) % 256)) else (none)) else (none)) else (none)) else (none)) = some r:=by first|(rw [hji10] at H;exact H)|(simp only [hji10] at H ⊢; exact H)
 by_cases c11 : 0 ≤ (ji10)
 rotate_left
 ·rw [if_neg c11] at H
  exact absurd H (by simp)
 rw [if_pos c11] at H
 have c11b0 : decide (0 ≤ (ji10)) = true:=decide_eq_true c11
 clear c11
 by_cases c12 : (ji10) < 256
 rotate_left
 ·rw [if_neg c12] at H
  exact absurd H (by simp)
 rw [if_pos c12] at H
 have c12b0 : decide ((ji10) < 256) = true:=decide_eq_true c12
 clear c12
 by_cases c14 : 0 ≤ (Go.bits .and .u32 a0 255)
 rotate_left
 ·rw [if_neg c14] at H
  exact absurd H (by simp)
 rw [if_pos c14] at H
 have c14b0 : decide (0 ≤ (Go.bits .and .u32 a0 255)) = true:=decide_eq_true c14
 clear c14
 by_cases c15 : (Go.bits .and .u32 a0 255) < 256
 rotate_left
 ·rw [if_neg c15] at H
  exact absurd H (by simp)
 rw [if_pos c15] at H
 have c15b0 : decide ((Go.bits .and .u32 a0 255) < 256) = true:=decide_eq_true c15
 clear c15
 obtain rfl:=Option.some.inj H
 have p5 : 0 ≤ ((ji2) : Int):=of_decide_eq_true (by first|(with_reducible assumption)|assumption)
 have q5 : (ji2) < (256 : Int):=of_decide_eq_true (by first|(with_reducible assumption)|assumption)
 have hx5:=f_P (⟨#[0,1,1,2,1,2,2,3,1,2,2,3,2,3,3,4,1,2,2,3,2,3,3,4,2,3,3,4,3,4,4,5,1,2,2,3,2,3,3,4,2,3,3,4,3,4,4,5,2,3,3,4,3,4,4,5,3,4,4,5,4,5,5,6,1,2,2,3,2,3,3,4,2,3,3,4,3,4,4,5,2,3,3,4,3,4,4,5,3,4,4,5,4,5,5,6,2,3,3,4,3,4,4,5,3,4,4,5,4,5,5,6,3,4,4,5,4,5,5,6,4,5,5,6,5,6,6,7,1,2,2,3,2,3,3,4,2,3,3,4,3,4,4,5,2,3,3,4,3,4,4,5,3,4,4,5,4,5,5,6,2,3,3,4,3,4,4,5,3,4,4,5,4,5,5,6,3,4,4,5,4,5,5,6,4,5,5,6,5,6,6,7,2,3,3,4,3,4,4,5,3,4,4,5,4,5,5,6,3,4,4,5,4,5,5,6,4,5,5,6,5,6,6,7,3,4,4,5,4,5,5,6,4,5,5,6,5,6,6,7,4,5,5,6,5,6,6,7,5,6,6,7,6,7,7,8]⟩ : ByteArray) (ji2)
 replace p5:=eq_true p5
 replace q5:=eq_true q5
 have p9 : 0 ≤ ((ji6) : Int):=of_decide_eq_true (by first|(with_reducible assumption)|assumption)
 have q9 : (ji6) < (256 : Int):=of_decide_eq_true (by first|(with_reducible assumption)|assumption)
 have hx9:=f_P (⟨#[0,1,1,2,1,2,2,3,1,2,2,3,2,3,3,4,1,2,2,3,2,3,3,4,2,3,3,4,3,4,4,5,1,2,2,3,2,3,3,4,2,3,3,4,3,4,4,5,2,3,3,4,3,4,4,5,3,4,4,5,4,5,5,6,1,2,2,3,2,3,3,4,2,3,3,4,3,4,4,5,2,3,3,4,3,4,4,5,3,4,4,5,4,5,5,6,2,3,3,4,3,4,4,5,3,4,4,5,4,5,5,6,3,4,4,5,4,5,5,6,4,5,5,6,5,6,6,7,1,2,2,3,2,3,3,4,2,3,3,4,3,4,4,5,2,3,3,4,3,4,4,5,3,4,4,5,4,5,5,6,2,3,3,4,3,4,4,5,3,4,4,5,4,5,5,6,3,4,4,5,4,5,5,6,4,5,5,6,5,6,6,7,2,3,3,4,3,4,4,5,3,4,4,5,4,5,5,6,3,4,4,5,4,5,5,6,4,5,5,6,5,6,6,7,3,4,4,5,4,5,5,6,4,5,5,6,5,6,6,7,4,5,5,6,5,6,6,7,5,6,6,7,6,7,7,8]⟩ : ByteArray) (ji6)
 replace p9:=eq_true p9
 replace q9:=eq_true q9
 have p13 : 0 ≤ ((ji10) : Int):=of_decide_eq_true (by first|(with_reducible assumption)|assumption)
 have q13 : (ji10) < (256 : Int):=of_decide_eq_true (by first|(with_reducible assumption)|assumption)
 have hx13:=f_P (⟨#[0,1,1,2,1,2,2,3,1,2,2,3,2,3,3,4,1,2,2,3,2,3,3,4,2,3,3,4,3,4,4,5,1,2,2,3,2,3,3,4,2,3,3,4,3,4,4,5,2,3,3,4,3,4,4,5,3,4,4,5,4,5,5,6,1,2,2,3,2,3,3,4,2,3,3,4,3,4,4,5,2,3,3,4,3,4,4,5,3,4,4,5,4,5,5,6,2,3,3,4,3,4,4,5,3,4,4,5,4,5,5,6,3,4,4,5,4,5,5,6,4,5,5,6,5,6,6,7,1,2,2,3,2,3,3,4,2,3,3,4,3,4,4,5,2,3,3,4,3,4,4,5,3,4,4,5,4,5,5,6,2,3,3,4,3,4,4,5,3,4,4,5,4,5,5,6,3,4,4,5,4,5,5,6,4,5,5,6,5,6,6,7,2,3,3,4,3,4,4,5,3,4,4,5,4,5,5,6,3,4,4,5,4,5,5,6,4,5,5,6,5,6,6,7,3,4,4,5,4,5,5,6,4,5,5,6,5,6,6,7,4,5,5,6,5,6,6,7,5,6,6,7,6,7,7,8]⟩ : ByteArray) (ji10)
 replace p13:=eq_true p13
 replace q13:=eq_true q13
 have p16 : 0 ≤ ((Go.bits .and .u32 a0 255) : Int):=of_decide_eq_true (by first|(with_reducible assumption)|assumption)
 have q16 : (Go.bits .and .u32 a0 255) < (256 : Int):=of_decide_eq_true (by first|(with_reducible assumption)|assumption)
 have hx16:=f_P (⟨#[0,1,1,2,1,2,2,3,1,2,2,3,2,3,3,4,1,2,2,3,2,3,3,4,2,3,3,4,3,4,4,5,1,2,2,3,2,3,3,4,2,3,3,4,3,4,4,5,2,3,3,4,3,4,4,5,3,4,4,5,4,5,5,6,1,2,2,3,2,3,3,4,2,3,3,4,3,4,4,5,2,3,3,4,3,4,4,5,3,4,4,5,4,5,5,6,2,3,3,4,3,4,4,5,3,4,4,5,4,5,5,6,3,4,4,5,4,5,5,6,4,5,5,6,5,6,6,7,1,2,2,3,2,3,3,4,2,3,3,4,3,4,4,5,2,3,3,4,3,4,4,5,3,4,4,5,4,5,5,6,2,3,3,4,3,4,4,5,3,4,4,5,4,5,5,6,3,4,4,5,4,5,5,6,4,5,5,6,5,6,6,7,2,3,3,4,3,4,4,5,3,4,4,5,4,5,5,6,3,4,4,5,4,5,5,6,4,5,5,6,5,6,6,7,3,4,4,5,4,5,5,6,4,5,5,6,5,6,6,7,4,5,5,6,5,6,6,7,5,6,6,7,6,7,7,8]⟩ : ByteArray) (Go.bits .and .u32 a0 255)
 replace p16:=eq_true p16
 replace q16:=eq_true q16
 go_enter Tryd.func31,Tryd.ntmps31
 go_wp2
 repeat (go_quiet (fail);try go_wp2)
 go_ret
 exact ⟨by first|rfl|(simp;done)|(simp only [← hji2, ← hji6, ← hji10] <;> (first|rfl|simp))|(simp [*];done),by repeat (first|exact a_2.refl _|apply a_2.step)⟩
end Go.Proofs.YtkhbffjfclepfaaDoor.Q
end
section
namespace Go.Proofs.YtkhbffjfclepfaaDoor.Q
open Go.RowKit Go.Proofs.YtkhbffjfclepfaaDoorW.PrintWords Go.Proofs.YtkhbffjfclepfaaDoorW.PrintLast Go.Proofs.YtkhbffjfclepfaaDoorW.PrintMore
set_option linter.unusedVariables false
set_option linter.unusedSimpArgs false
def a_U.f (a0 : Int) : Option (Int):=(b_n.f (Go.bits .and .u32 a0 255)).bind fun t165 => (some t165)
set_option maxHeartbeats 8000000 in
set_option maxRecDepth 100000 in
theorem a_U.calls (a0 : Int) (r : Int) (w : World) (h : a_U.f a0 = some r) :
 Calls Tryd.prog 17 #[.int .u32 a0] w fun e w' => e = .returned (.int .i64 r) ∧ a_2 w w':=by
 have H : ((b_n.f (Go.bits .and .u32 a0 255)).bind fun t165 => (some t165)) = some r:=h
 clear h
 replace H:=Option.bind_eq_some_iff.mp H
 obtain ⟨t165,A20,H⟩:=H
 replace H : (some t165) = some r:=H
 have A2:=a_a.mk A20
 clear A20
 obtain rfl:=Option.some.inj H
 go_enter Tryd.func17,Tryd.ntmps17
 go_wp2_with (first|((with_reducible refine a_x (f:=31) rfl ?_);refine a_Y (some 5) rfl rfl Tryd.func31 (by kernel_rfl) rfl #[.int .u32 (Go.bits .and .u32 a0 255)] rfl (by (try simp only [List.map_toArray,List.map_cons,List.map_nil]);first|done|rfl|(simp only [List.length_drop,List.length_take];rfl)) ?_;(with_reducible refine (b_n.calls (Go.bits .and .u32 a0 255) t165 _ A2.out).mono ?_);rintro e w' ⟨rfl,⟨nd,rfl⟩⟩;refine ⟨_,rfl,?_⟩))
 go_ret
 exact ⟨by first|rfl|(simp;done)|(simp [*];done),by repeat (first|exact a_2.refl _|apply a_2.step)⟩
end Go.Proofs.YtkhbffjfclepfaaDoor.Q
end
section
namespace Go.Proofs.YtkhbffjfclepfaaDoor.Q
open Go.RowKit Go.Proofs.YtkhbffjfclepfaaDoorW.PrintWords Go.Proofs.YtkhbffjfclepfaaDoorW.PrintLast Go.Proofs.YtkhbffjfclepfaaDoorW.PrintMore
set_option linter.unusedVariables false
set_option linter.unusedSimpArgs false
set_option maxHeartbeats 2000000 in
theorem c_z.any (g : Nat) (lb : Array Value) (eg : ∀ args w,(callFunc g args).run Tryd.prog w = .ok (.enter g args) w) (p : Int → Bool) (A : Option Addr) (c : Nat) (xs : List Int) (w : World)
 (hr : Kd.C (Kd.int .i64) w A xs.length xs) (hlen : xs.length ≤ 35184372088832)
 (hp : ∀ W,Below w.heap.size w W → ∀ x ∈ xs,Calls Tryd.prog g (#[.int .i64 x] ++ lb) W fun e W' => e = .returned (.bool (p x)) ∧ Below W.heap.size W W') :
 Calls Tryd.prog 39 #[.slice A xs.length c,.func (.func g) #[] lb] w fun e w' => e = .returned (.int .i64 (idxOf p xs)) ∧ Below w.heap.size w w':=by
 have HP:=a_a.mk hp
 have HR:=a_a.mk hr
 clear hp hr
 go_enter Tryd.func39,Tryd.ntmps39
 go_wp2
 go_loopg [5,8] xs.length (fun gg _ s8 wr => ∃ kk : Nat,s8 = .int .i64 kk ∧ kk ≤ xs.length ∧ xs.length - kk ≤ gg ∧ a_a (Below w.heap.size w wr) ∧ a_a (∀ j (hj : j < kk) (hj2 : j < xs.length),p xs[j] = false))
 case atStart => exact ⟨0,rfl,Nat.zero_le _,by omega,⟨Below.refl _ _⟩,⟨fun j hj => absurd hj (Nat.not_lt_zero _)⟩⟩
 case round =>
  obtain ⟨kk,rfl,hkk,hg,HB,HN⟩:=hrel
  by_cases hlt : kk < xs.length
  rotate_left
  ·have hltz : ¬ (kk : Int) < (xs.length : Int):=by omega
   have : kk = xs.length:=by omega
   go_wp2
   go_ret
   refine ⟨?_,HB.out⟩
   rw [idxOf_miss (fun j hj => HN.out j (by omega) hj)];rfl
  have hltz : (kk : Int) < (xs.length : Int):=by omega
  obtain ⟨ad,rfl,hcell⟩:=Kd.b_X (Kd.a_K HR.out HB.out) (kk : Int) (by omega) (by omega)
  have hx:=List.getElem_mem hlt
  have hrd : rd xs (kk : Int) = xs[kk]:=by unfold rd;simp [hlt]
  rw [hrd] at hcell
  simp only [Int.toNat_natCast] at hcell
  have hcall:=HP.out _ HB.out _ hx
  generalize hy : xs[kk] = y at hcell hcall hx
  have HY:=a_a.mk hy
  clear hy hx hrd
  cases hq : p y with
  | true =>
   rw [hq] at hcall
   go_wp2_with (go_at_fn g;refine hcall.mono ?_;rintro e w' ⟨rfl,hb'⟩)
   go_ret
   refine ⟨?_,HB.out.trans (hb'.mono (a_r HB.out))⟩
   rw [idxOf_hit hlt (by rw [HY.out];exact hq) (fun j hj => HN.out j hj (by omega))];rfl
  | false =>
   rw [hq] at hcall
   go_wp2_with (go_at_fn g;refine hcall.mono ?_;rintro e w' ⟨rfl,hb'⟩)
   go_roundg (xs.length - (kk + 1))
   case measure => omega
   case rel =>
    exact ⟨kk + 1,by go_num,by omega,by omega,⟨HB.out.trans (hb'.mono (a_r HB.out))⟩,⟨fun j hj hj2 => by
     by_cases e : j = kk
     ·subst e;rw [HY.out];exact hq
     exact HN.out j (by omega) hj2⟩⟩
end Go.Proofs.YtkhbffjfclepfaaDoor.Q
end
section
namespace Go.Proofs.YtkhbffjfclepfaaDoor.Q
open Go.RowKit Go.Proofs.YtkhbffjfclepfaaDoorW.PrintWords Go.Proofs.YtkhbffjfclepfaaDoorW.PrintLast Go.Proofs.YtkhbffjfclepfaaDoorW.PrintMore
set_option linter.unusedVariables false
set_option linter.unusedSimpArgs false
set_option maxHeartbeats 2000000 in
theorem c_g.any (g : Nat) (lb : Array Value) (eg : ∀ args w,(callFunc g args).run Tryd.prog w = .ok (.enter g args) w) (p : Int → Bool) (A : Option Addr) (c : Nat) (xs : List Int) (w : World)
 (hr : Kd.C (Kd.int .i64) w A xs.length xs) (hlen : xs.length ≤ 35184372088832)
 (hp : ∀ W,Below w.heap.size w W → ∀ x ∈ xs,Calls Tryd.prog g (#[.int .i64 x] ++ lb) W fun e W' => e = .returned (.bool (p x)) ∧ Below W.heap.size W W') :
 Calls Tryd.prog 33 #[.slice A xs.length c,.func (.func g) #[] lb] w fun e w' => e = .returned (.bool (xs.any p)) ∧ Below w.heap.size w w':=by
 rw [← d_5]
 have HP:=a_a.mk hp
 have HR:=a_a.mk hr
 clear hp hr
 go_enter Tryd.func33,Tryd.ntmps33
 go_wp2_with (go_at_call 39;refine (c_z.any g lb eg p A c xs _ HR.out hlen HP.out).mono ?_;rintro e w' ⟨rfl,hb⟩)
 go_ret
 exact ⟨rfl,hb⟩
end Go.Proofs.YtkhbffjfclepfaaDoor.Q
end
section
namespace Go.Proofs.YtkhbffjfclepfaaDoor.Q
open Go.RowKit Go.Proofs.YtkhbffjfclepfaaDoorW.PrintWords Go.Proofs.YtkhbffjfclepfaaDoorW.PrintLast Go.Proofs.YtkhbffjfclepfaaDoorW.PrintMore
set_option linter.unusedVariables false
set_option linter.unusedSimpArgs false
set_option maxHeartbeats 2000000 in
theorem e_P.calls (g : Nat) (A : Option Addr) (m c : Nat) (n : Int) (w : World) (hb : w.heap[g]? = some (.cells #[.slice A m c] 26 (0,0))) :
 Calls Tryd.prog 34 (#[.int .i64 n] ++ #[.pointer (some ⟨g,0,none⟩)]) w fun e w' => e = .returned (.bool (decide (n < 0) || decide ((m : Int) ≤ n))) ∧ Below w.heap.size w w':=by
 have hc:=(a_h hb 0).trans rfl
 have hf:=a_f hb 0
 clear hb
 by_cases h : n < 0
 ·have h1 : decide (n < 0) = true:=decide_eq_true h
  go_enter Tryd.func34,Tryd.ntmps34
  go_wp2
  go_ret
  exact ⟨by simp [h],Below.refl _ _⟩
 have h1 : decide (n < 0) = false:=decide_eq_false h
 go_enter Tryd.func34,Tryd.ntmps34
 go_wp2
 go_ret
 exact ⟨by simp [h],Below.refl _ _⟩
def a_F.f (l0_0 : List Int) (l1 : List Int) : Option Bool :=
 if l1.length ≤ 35184372088832 then some (!(l1.any fun n => decide (n < 0) || decide ((l0_0.length : Int) ≤ n))) else none
set_option maxHeartbeats 2000000 in
theorem a_F.calls (A0_0 : Option Addr) (c0_0 : Nat) (l0_0 : List Int) (A1 : Option Addr) (c1 : Nat) (l1 : List Int) (r : Bool) (w : World) (hr0_0 : Kd.C (Kd.int .u32) w A0_0 l0_0.length l0_0) (hc0_0 : l0_0.length ≤ c0_0)
 (hr1 : Kd.C (Kd.int .i64) w A1 l1.length l1) (hc1 : l1.length ≤ c1) (h : a_F.f l0_0 l1 = some r) :
 Calls Tryd.prog 25 #[.agg #[.slice A0_0 l0_0.length c0_0],.slice A1 l1.length c1] w fun e w' => e = .returned (.bool r) ∧ Below w.heap.size w w':=by
 unfold a_F.f at h
 split at h
 case isFalse => cases h
 case isTrue hl =>
 obtain rfl:=Option.some.inj h
 have eg : ∀ args w,(callFunc 34 args).run Tryd.prog w = .ok (.enter 34 args) w:=c_2 Tryd.func34 (by kernel_rfl) rfl
 have HR:=a_a.mk hr1
 clear h hr0_0 hr1 hc1
 have HP:=a_a.mk (fun W (hW : Below (w.alloc (.cells #[.slice A0_0 l0_0.length c0_0] 26)).heap.size (w.alloc (.cells #[.slice A0_0 l0_0.length c0_0] 26)) W) x (_ : x ∈ l1) => e_P.calls w.heap.size A0_0 l0_0.length c0_0 x W ((hW.block w.heap.size (by simp)).trans (e_l _ _)))
 go_enter Tryd.func25,Tryd.ntmps25
 go_wp2_with (go_at_call 33;refine (c_g.any 34 _ eg (fun n => decide (n < 0) || decide ((l0_0.length : Int) ≤ n)) A1 c1 l1 _ (Kd.a_4 HR.out _) hl HP.out).mono ?_;rintro e w' ⟨rfl,hb⟩)
 go_ret
 exact ⟨rfl,((Below.refl _ _).alloc (Nat.le_refl _) _).trans (hb.mono (by simp))⟩
end Go.Proofs.YtkhbffjfclepfaaDoor.Q
end
section
namespace Go.Proofs.YtkhbffjfclepfaaDoor.Q
open Go.RowKit Go.Proofs.YtkhbffjfclepfaaDoorW.PrintWords Go.Proofs.YtkhbffjfclepfaaDoorW.PrintLast Go.Proofs.YtkhbffjfclepfaaDoorW.PrintMore
set_option linter.unusedVariables false
set_option linter.unusedSimpArgs false
set_option maxHeartbeats 2000000 in
theorem b_8.calls (ad : Addr) (c0 : Nat) (l : List Int) (w : World) (hr : Kd.C (Kd.int .u32) w (some ad) l.length l) (hl : l.length < 35184372088832) :
 Calls Tryd.prog 32 #[.slice (some ad) l.length c0] w fun e w' => ∃ v : Value,e = .returned v ∧ Kd.R (Kd.int .u32) 32 w' w.heap.size (fun _ => True) v l ∧ Below w.heap.size w w':=by
 have HR:=a_a.mk hr
 have HL:=a_a.mk hl
 clear hr hl
 have HB:=a_a.mk (Below.refl w.heap.size w)
 have hnil := @Lib.run_eql_slice_nil Tryd.prog
 go_enter Tryd.func32,Tryd.ntmps32
 go_wp2_with (first|((with_reducible refine a_u (N:=5) rfl ?_);refine Kd.c_0 (Kd.int .u32) _ 32 ?hg (N:=5) ?hd (xs:=([] : List Int)) (inner:=[]) (ok:=fun _ => True) (okp:=fun _ => True) ?hr ?hp (fun _ hk => hk) trivial (Below.refl _ _) (Nat.le_refl _) (by simp) ?_;(case hd => rfl);(case hg => rfl);(case hr => first|(go_simp;done)|(go_simp;rfl));(case hp => exact (Reps.none _ _));intro v121 w5 ho6 hb hg_ hnew_;clear hg_ hnew_;have HO:=a_a.mk ho6;have n3_:=a_a.mk (a_i HB.out hb);clear HB;have HB:=n3_;clear n3_ hb ho6)|((with_reducible refine d_X (b:=.append) (xs:=#[.tmp 5,.tmp 6]) rfl ?_);at_builtin;refine Kd.d_J (Kd.int .u32) (w0:=w) w.heap.size rfl (.tmp 5) (.tmp 6) 24 32 (.int .u32 0) 4 rfl Tryd.underlying24 f_2 rfl (by decide) (by omega) v121 [] l _ _ _ (fun _ => True) (fun _ => False) rfl rfl ?aO ?aR (fun _ _ h => h) (fun _ h => h.elim) ?aF ?aB ?aS ?aL ?_;(case aR => exact (Kd.a_K HR.out HB.out));(case aB => exact HB.out);(case aF => exact (fun _ _ => trivial));(case aO => exact HO.out);(case aS => exact HB.out.size);(case aL => have:=HL.out;simp;omega);intro v124 w9 ho hb hg hat;have HO2:=a_a.mk ho;have HB2:=a_a.mk hb;clear ho hb hg hat))
 go_ret
 exact ⟨_,rfl,HO2.out,HB2.out⟩
end Go.Proofs.YtkhbffjfclepfaaDoor.Q
end
section
namespace Go.Proofs.YtkhbffjfclepfaaDoor.Q
open Go.RowKit Go.Proofs.YtkhbffjfclepfaaDoorW.PrintWords Go.Proofs.YtkhbffjfclepfaaDoorW.PrintLast Go.Proofs.YtkhbffjfclepfaaDoorW.PrintMore
set_option linter.unusedVariables false
set_option linter.unusedSimpArgs false
set_option maxHeartbeats 2000000 in
theorem b_x.does (g : Nat) (lb : Array Value) (eg : ∀ args w,(callFunc g args).run Tryd.prog w = .ok (.enter g args) w) (base : Nat) (M : Nat → Prop) (k : Nat) (ad : Addr) (c0 : Nat) (l : List Int) (A1 : Option Addr) (c1 : Nat) (ns : List Int) (w : World)
 (hr : Kd.C (Kd.int .u32) w (some ad) l.length l) (hc : l.length ≤ c0) (hr1 : Kd.C (Kd.int .i64) w A1 ns.length ns) (hc1 : ns.length ≤ c1) (hbase : base ≤ w.heap.size) (hM : ∀ k,M k → k < w.heap.size) (hec : a_n.f k l = some 0) (hp : a_F.f l ns = some true) (hl : l.length < 35184372088832)
 (err : Int) (l' : List Int) (J' : World → Prop) (hJ' : ∀ W W',J' W → (∀ k,M k → W'.heap[k]? = W.heap[k]?) → J' W')
 (hdo : ∀ W gq v,Below w.heap.size w W → w.heap.size ≤ gq → W.heap[gq]? = some (.cells #[v] 26 (0,0)) → Kd.R (Kd.int .u32) 32 W w.heap.size (fun _ => True) v l →
  Calls Tryd.prog g (#[.pointer (some ⟨gq,0,none⟩)] ++ lb) W fun e W' => e = .returned (.int .i64 err) ∧ Below base W W' ∧ J' W' ∧ (∀ k,k < W.heap.size → k ≠ gq → ¬ M k → some k ≠ v.ownBlock → W'.heap[k]? = W.heap[k]?) ∧ (err = 0 → ∃ v',W'.heap[gq]? = some (.cells #[v'] 26 (0,0)) ∧ Kd.R (Kd.int .u32) 32 W' w.heap.size (fun _ => True) v' l')) :
 Calls Tryd.prog 18 #[.agg #[.slice (some ad) l.length c0],.func (.func g) #[] lb,.slice A1 ns.length c1] w fun e w' => ∃ v,e = .returned (.tuple #[.agg #[v],.int .i64 err]) ∧ Kd.R (Kd.int .u32) 32 w' w.heap.size (fun _ => True) v (if err = 0 then l' else []) ∧ Below base w w' ∧ J' w' ∧ (∀ k,k < w.heap.size → ¬ M k → w'.heap[k]? = w.heap[k]?):=by
 have HR:=a_a.mk hr
 have HC:=a_a.mk hc
 have HR1:=a_a.mk hr1
 have HC1:=a_a.mk hc1
 have HE:=a_a.mk hec
 have HP:=a_a.mk hp
 have HL:=a_a.mk hl
 have HD:=a_a.mk hdo
 have HJ:=a_a.mk hJ'
 have HM:=a_a.mk hM
 have HBS:=a_a.mk hbase
 clear hr hc hr1 hc1 hec hp hl hdo hJ' hM hbase
 have HB:=a_a.mk (Below.refl w.heap.size w)
 by_cases herr : err = 0
 ·subst herr
  simp only [if_true]
  go_enter Tryd.func18,Tryd.ntmps18
  go_wp2_with (first
   | ((with_reducible refine a_u (N:=3) rfl ?_);refine a_t ?hg (N:=3) ?hd (cs:=#[.slice (some ad) l.length c0]) (t:=26) ?hr ?_;(case hd => rfl);(case hg => rfl);(case hr => first|(go_simp;done)|(go_simp;rfl));intro gbp hg wbp hbox hb;have m0_:=a_a.mk (a_i HB.out hb);have m1_:=a_a.mk (hbox);have m2_:=a_a.mk ((by rw [hg];exact HB.out.size : w.heap.size ≤ gbp));(try clear HB);have HB:=m0_;have BKp:=m1_;have GEp:=m2_;clear m0_ m1_ m2_ hb hbox hg)
   | ((with_reducible refine a_u (N:=6) rfl ?_);refine a_t ?hg (N:=6) ?hd (cs:=#[.slice none 0 0]) (t:=26) ?hr ?_;(case hd => rfl);(case hg => rfl);(case hr => first|(go_simp;done)|(go_simp;rfl));intro gbq hg wbq hbox hb;have m0_:=a_a.mk (a_b (g:=gbp) (o:=.cells #[.slice (some ad) l.length c0] 26 (0,0)) BKp.out hb);have m1_:=a_a.mk (a_i HB.out hb);have m2_:=a_a.mk (hbox);have m3_:=a_a.mk ((by rw [hg];exact HB.out.size : w.heap.size ≤ gbq));have m4_:=a_a.mk ((by rw [hg];exact Nat.ne_of_lt (a_k BKp.out) : gbp ≠ gbq));have m5_:=a_a.mk ((by rw [hg];exact Nat.ne_of_gt (a_k BKp.out) : gbq ≠ gbp));(try clear BKp);(try clear HB);have BKp:=m0_;have HB:=m1_;have BKq:=m2_;have GEq:=m3_;have NBp_q:=m4_;have NBq_p:=m5_;clear m0_ m1_ m2_ m3_ m4_ m5_ hb hbox hg;have hcz1_p_0 : World.cell? _ ⟨gbp,0,none⟩ = some (.slice (some ad) l.length c0):=(a_h BKp.out 0).trans rfl;have hfz1_p:=a_f BKp.out 0)
   | (go_at_call 12;(with_reducible refine (a_n.calls k _ _ l 0 _ ?s1 HC.out HE.out).mono ?_);(case s1 => exact Kd.a_K HR.out HB.out);rintro e w' ⟨rfl,hb⟩;clear hcz1_p_0 hfz1_p;have m0_:=a_a.mk (a_b (g:=gbp) (o:=.cells #[.slice (some ad) l.length c0] 26 (0,0)) BKp.out hb);have m1_:=a_a.mk (a_b (g:=gbq) (o:=.cells #[.slice none 0 0] 26 (0,0)) BKq.out hb);have m2_:=a_a.mk (a_i HB.out hb);(try clear BKp);(try clear BKq);(try clear HB);have BKp:=m0_;have BKq:=m1_;have HB:=m2_;clear m0_ m1_ m2_ hb;have hcz2_p_0 : World.cell? _ ⟨gbp,0,none⟩ = some (.slice (some ad) l.length c0):=(a_h BKp.out 0).trans rfl;have hfz2_p:=a_f BKp.out 0)
   | (go_at_call 25;(with_reducible refine (a_F.calls _ _ l _ _ ns true _ ?s1 HC.out ?s2 HC1.out HP.out).mono ?_);(case s1 => exact Kd.a_K HR.out HB.out);(case s2 => exact Kd.a_K HR1.out HB.out);rintro e w' ⟨rfl,hb⟩;clear hcz2_p_0 hfz2_p;have m0_:=a_a.mk (a_b (g:=gbp) (o:=.cells #[.slice (some ad) l.length c0] 26 (0,0)) BKp.out hb);have m1_:=a_a.mk (a_b (g:=gbq) (o:=.cells #[.slice none 0 0] 26 (0,0)) BKq.out hb);have m2_:=a_a.mk (a_i HB.out hb);(try clear BKp);(try clear BKq);(try clear HB);have BKp:=m0_;have BKq:=m1_;have HB:=m2_;clear m0_ m1_ m2_ hb;have hcz3_p_0 : World.cell? _ ⟨gbp,0,none⟩ = some (.slice (some ad) l.length c0):=(a_h BKp.out 0).trans rfl;have hfz3_p:=a_f BKp.out 0)
   | (go_at_call 32;(with_reducible refine (b_8.calls _ _ l _ ?s1 HL.out).mono ?_);(case s1 => exact Kd.a_K HR.out HB.out);rintro e w' ⟨v,rfl,ho,hb⟩;clear hcz3_p_0 hfz3_p;have m0_:=a_a.mk (a_b (g:=gbp) (o:=.cells #[.slice (some ad) l.length c0] 26 (0,0)) BKp.out hb);have m1_:=a_a.mk (a_b (g:=gbq) (o:=.cells #[.slice none 0 0] 26 (0,0)) BKq.out hb);have m2_:=a_a.mk (a_i HB.out hb);have m3_:=a_a.mk (Kd.a_0 ho HB.out.size);(try clear BKp);(try clear BKq);(try clear HB);have BKp:=m0_;have BKq:=m1_;have HB:=m2_;have HOv:=m3_;clear m0_ m1_ m2_ m3_ hb ho;obtain ⟨Av,cv,ev⟩:=Kd.a_W HOv.out;subst ev)
   | ((with_reducible refine a_u (N:=9) rfl ?_);refine a_t ?hg (N:=9) ?hd (cs:=#[.slice none 0 0]) (t:=26) ?hr ?_;(case hd => rfl);(case hg => rfl);(case hr => first|(go_simp;done)|(go_simp;rfl));intro gbn hg wbn hbox hb;have m0_:=a_a.mk (a_b (g:=gbp) (o:=.cells #[.slice (some ad) l.length c0] 26 (0,0)) BKp.out hb);have m1_:=a_a.mk (a_b (g:=gbq) (o:=.cells #[.slice none 0 0] 26 (0,0)) BKq.out hb);have m2_:=a_a.mk (Kd.a_G HOv.out hb);have m3_:=a_a.mk (a_i HB.out hb);have m4_:=a_a.mk (hbox);have m5_:=a_a.mk ((by rw [hg];exact HB.out.size : w.heap.size ≤ gbn));have m6_:=a_a.mk ((by rw [hg];exact Nat.ne_of_lt (a_k BKp.out) : gbp ≠ gbn));have m7_:=a_a.mk ((by rw [hg];exact Nat.ne_of_gt (a_k BKp.out) : gbn ≠ gbp));have m8_:=a_a.mk ((by rw [hg];exact Nat.ne_of_lt (a_k BKq.out) : gbq ≠ gbn));have m9_:=a_a.mk ((by rw [hg];exact Nat.ne_of_gt (a_k BKq.out) : gbn ≠ gbq));(try clear BKp);(try clear BKq);(try clear HOv);(try clear HB);have BKp:=m0_;have BKq:=m1_;have HOv:=m2_;have HB:=m3_;have BKn:=m4_;have GEn:=m5_;have NBp_n:=m6_;have NBn_p:=m7_;have NBq_n:=m8_;have NBn_q:=m9_;clear m0_ m1_ m2_ m3_ m4_ m5_ m6_ m7_ m8_ m9_ hb hbox hg;have hcz4_n_0 : World.cell? _ ⟨gbn,0,none⟩ = some (.slice none 0 0):=(a_h BKn.out 0).trans rfl;have hfz4_n:=a_f BKn.out 0)
   | (go_at_fn g;refine (HD.out _ gbn (.slice Av l.length cv) ?d1 GEn.out ?d2 ?d3).mono ?_;(case d1 => exact a_d HB.out GEn.out);(case d2 => exact a_D (cs:=#[.slice none 0 0]) BKn.out 0 _ rfl);(case d3 => exact Kd.b_2 HOv.out BKn.out (by decide) 0 _);rintro e w' ⟨rfl,hbb,hj,hk,hq⟩;clear hcz4_n_0 hfz4_n;have KQ:=a_a.mk ((hk gbq (by have:=a_k BKq.out;simpa [World.setCell] using this) NBq_n.out (fun hm => Nat.not_lt.2 GEq.out (HM.out _ hm)) (Kd.R_ne HOv.out BKq.out (by decide))).trans (a_v BKq.out (p:=⟨gbn,0,none⟩) NBq_n.out (.slice Av l.length cv)));have hcq : World.cell? _ ⟨gbq,0,none⟩ = some (.slice none 0 0):=(a_h KQ.out 0).trans rfl;have hfq:=a_f KQ.out 0;have HBB:=a_a.mk hbb;have HJ2:=a_a.mk hj;have HK:=a_a.mk hk;have hnq:=NBq_n.out;have hnq2:=NBn_q.out;clear hbb hj hk;obtain ⟨v',hbn,hov⟩:=hq (by trivial);obtain ⟨Aw,cw,ew⟩:=Kd.a_W hov;subst ew;have KN:=a_a.mk hbn;have HOW:=a_a.mk hov;clear hbn hov;have hcn : World.cell? _ ⟨gbn,0,none⟩ = some (.slice Aw l'.length cw):=(a_h KN.out 0).trans rfl))
  refine bodyPost_ret (b_q rfl _ _ gbq 26 #[.slice Aw l'.length cw] (0,0) _ rfl (a_D (cs:=#[.slice none 0 0]) KQ.out 0 _ rfl) Tryd.underlying26 rfl (by kernel_rfl)) rfl ?_
  refine ⟨_,rfl,Kd.b_2 HOW.out KQ.out (by decide) 0 _,((HB.out.setCell GEn.out _).mono HBS.out |>.trans HBB.out).setCell (Nat.le_trans HBS.out GEq.out) _,HJ.out _ _ HJ2.out (fun k_ hk_ => b_V (HM.out _ hk_) GEq.out),fun k_ hk_ hm_ => ?_⟩
  refine (b_V hk_ GEq.out).trans ((HK.out k_ (by have:=HB.out.size;simp [World.setCell];omega) (Nat.ne_of_lt (Nat.lt_of_lt_of_le hk_ GEn.out)) hm_ (fun e_ => Nat.not_lt.2 (Kd.b_6 HOv.out k_ e_.symm) hk_)).trans ?_)
  exact (b_V hk_ GEn.out).trans (HB.out.block k_ hk_)
 rw [if_neg herr]
 have hb1 : (err != 0) = true:=bne_iff_ne.mpr herr
 clear herr
 go_enter Tryd.func18,Tryd.ntmps18
 go_wp2_with (first
  | ((with_reducible refine a_u (N:=3) rfl ?_);refine a_t ?hg (N:=3) ?hd (cs:=#[.slice (some ad) l.length c0]) (t:=26) ?hr ?_;(case hd => rfl);(case hg => rfl);(case hr => first|(go_simp;done)|(go_simp;rfl));intro gbp hg wbp hbox hb;have m0_:=a_a.mk (a_i HB.out hb);have m1_:=a_a.mk (hbox);have m2_:=a_a.mk ((by rw [hg];exact HB.out.size : w.heap.size ≤ gbp));(try clear HB);have HB:=m0_;have BKp:=m1_;have GEp:=m2_;clear m0_ m1_ m2_ hb hbox hg)
  | ((with_reducible refine a_u (N:=6) rfl ?_);refine a_t ?hg (N:=6) ?hd (cs:=#[.slice none 0 0]) (t:=26) ?hr ?_;(case hd => rfl);(case hg => rfl);(case hr => first|(go_simp;done)|(go_simp;rfl));intro gbq hg wbq hbox hb;have m0_:=a_a.mk (a_b (g:=gbp) (o:=.cells #[.slice (some ad) l.length c0] 26 (0,0)) BKp.out hb);have m1_:=a_a.mk (a_i HB.out hb);have m2_:=a_a.mk (hbox);have m3_:=a_a.mk ((by rw [hg];exact HB.out.size : w.heap.size ≤ gbq));have m4_:=a_a.mk ((by rw [hg];exact Nat.ne_of_lt (a_k BKp.out) : gbp ≠ gbq));have m5_:=a_a.mk ((by rw [hg];exact Nat.ne_of_gt (a_k BKp.out) : gbq ≠ gbp));(try clear BKp);(try clear HB);have BKp:=m0_;have HB:=m1_;have BKq:=m2_;have GEq:=m3_;have NBp_q:=m4_;have NBq_p:=m5_;clear m0_ m1_ m2_ m3_ m4_ m5_ hb hbox hg;have hcz1_p_0 : World.cell? _ ⟨gbp,0,none⟩ = some (.slice (some ad) l.length c0):=(a_h BKp.out 0).trans rfl;have hfz1_p:=a_f BKp.out 0)
  | (go_at_call 12;(with_reducible refine (a_n.calls k _ _ l 0 _ ?s1 HC.out HE.out).mono ?_);(case s1 => exact Kd.a_K HR.out HB.out);rintro e w' ⟨rfl,hb⟩;clear hcz1_p_0 hfz1_p;have m0_:=a_a.mk (a_b (g:=gbp) (o:=.cells #[.slice (some ad) l.length c0] 26 (0,0)) BKp.out hb);have m1_:=a_a.mk (a_b (g:=gbq) (o:=.cells #[.slice none 0 0] 26 (0,0)) BKq.out hb);have m2_:=a_a.mk (a_i HB.out hb);(try clear BKp);(try clear BKq);(try clear HB);have BKp:=m0_;have BKq:=m1_;have HB:=m2_;clear m0_ m1_ m2_ hb;have hcz2_p_0 : World.cell? _ ⟨gbp,0,none⟩ = some (.slice (some ad) l.length c0):=(a_h BKp.out 0).trans rfl;have hfz2_p:=a_f BKp.out 0)
  | (go_at_call 25;(with_reducible refine (a_F.calls _ _ l _ _ ns true _ ?s1 HC.out ?s2 HC1.out HP.out).mono ?_);(case s1 => exact Kd.a_K HR.out HB.out);(case s2 => exact Kd.a_K HR1.out HB.out);rintro e w' ⟨rfl,hb⟩;clear hcz2_p_0 hfz2_p;have m0_:=a_a.mk (a_b (g:=gbp) (o:=.cells #[.slice (some ad) l.length c0] 26 (0,0)) BKp.out hb);have m1_:=a_a.mk (a_b (g:=gbq) (o:=.cells #[.slice none 0 0] 26 (0,0)) BKq.out hb);have m2_:=a_a.mk (a_i HB.out hb);(try clear BKp);(try clear BKq);(try clear HB);have BKp:=m0_;have BKq:=m1_;have HB:=m2_;clear m0_ m1_ m2_ hb;have hcz3_p_0 : World.cell? _ ⟨gbp,0,none⟩ = some (.slice (some ad) l.length c0):=(a_h BKp.out 0).trans rfl;have hfz3_p:=a_f BKp.out 0)
  | (go_at_call 32;(with_reducible refine (b_8.calls _ _ l _ ?s1 HL.out).mono ?_);(case s1 => exact Kd.a_K HR.out HB.out);rintro e w' ⟨v,rfl,ho,hb⟩;clear hcz3_p_0 hfz3_p;have m0_:=a_a.mk (a_b (g:=gbp) (o:=.cells #[.slice (some ad) l.length c0] 26 (0,0)) BKp.out hb);have m1_:=a_a.mk (a_b (g:=gbq) (o:=.cells #[.slice none 0 0] 26 (0,0)) BKq.out hb);have m2_:=a_a.mk (a_i HB.out hb);have m3_:=a_a.mk (Kd.a_0 ho HB.out.size);(try clear BKp);(try clear BKq);(try clear HB);have BKp:=m0_;have BKq:=m1_;have HB:=m2_;have HOv:=m3_;clear m0_ m1_ m2_ m3_ hb ho;obtain ⟨Av,cv,ev⟩:=Kd.a_W HOv.out;subst ev)
  | ((with_reducible refine a_u (N:=9) rfl ?_);refine a_t ?hg (N:=9) ?hd (cs:=#[.slice none 0 0]) (t:=26) ?hr ?_;(case hd => rfl);(case hg => rfl);(case hr => first|(go_simp;done)|(go_simp;rfl));intro gbn hg wbn hbox hb;have m0_:=a_a.mk (a_b (g:=gbp) (o:=.cells #[.slice (some ad) l.length c0] 26 (0,0)) BKp.out hb);have m1_:=a_a.mk (a_b (g:=gbq) (o:=.cells #[.slice none 0 0] 26 (0,0)) BKq.out hb);have m2_:=a_a.mk (Kd.a_G HOv.out hb);have m3_:=a_a.mk (a_i HB.out hb);have m4_:=a_a.mk (hbox);have m5_:=a_a.mk ((by rw [hg];exact HB.out.size : w.heap.size ≤ gbn));have m6_:=a_a.mk ((by rw [hg];exact Nat.ne_of_lt (a_k BKp.out) : gbp ≠ gbn));have m7_:=a_a.mk ((by rw [hg];exact Nat.ne_of_gt (a_k BKp.out) : gbn ≠ gbp));have m8_:=a_a.mk ((by rw [hg];exact Nat.ne_of_lt (a_k BKq.out) : gbq ≠ gbn));have m9_:=a_a.mk ((by rw [hg];exact Nat.ne_of_gt (a_k BKq.out) : gbn ≠ gbq));(try clear BKp);(try clear BKq);(try clear HOv);(try clear HB);have BKp:=m0_;have BKq:=m1_;have HOv:=m2_;have HB:=m3_;have BKn:=m4_;have GEn:=m5_;have NBp_n:=m6_;have NBn_p:=m7_;have NBq_n:=m8_;have NBn_q:=m9_;clear m0_ m1_ m2_ m3_ m4_ m5_ m6_ m7_ m8_ m9_ hb hbox hg;have hcz4_n_0 : World.cell? _ ⟨gbn,0,none⟩ = some (.slice none 0 0):=(a_h BKn.out 0).trans rfl;have hfz4_n:=a_f BKn.out 0)
  | (go_at_fn g;refine (HD.out _ gbn (.slice Av l.length cv) ?d1 GEn.out ?d2 ?d3).mono ?_;(case d1 => exact a_d HB.out GEn.out);(case d2 => exact a_D (cs:=#[.slice none 0 0]) BKn.out 0 _ rfl);(case d3 => exact Kd.b_2 HOv.out BKn.out (by decide) 0 _);rintro e w' ⟨rfl,hbb,hj,hk,hq⟩;clear hcz4_n_0 hfz4_n;have KQ:=a_a.mk ((hk gbq (by have:=a_k BKq.out;simpa [World.setCell] using this) NBq_n.out (fun hm => Nat.not_lt.2 GEq.out (HM.out _ hm)) (Kd.R_ne HOv.out BKq.out (by decide))).trans (a_v BKq.out (p:=⟨gbn,0,none⟩) NBq_n.out (.slice Av l.length cv)));have hcq : World.cell? _ ⟨gbq,0,none⟩ = some (.slice none 0 0):=(a_h KQ.out 0).trans rfl;have hfq:=a_f KQ.out 0;have HBB:=a_a.mk hbb;have HJ2:=a_a.mk hj;have HK:=a_a.mk hk;have hnq:=NBq_n.out;have hnq2:=NBn_q.out;clear hbb hj hk hq))
 refine bodyPost_ret (b_q rfl _ _ gbq 26 #[.slice none 0 0] (0,0) _ rfl (a_D (cs:=#[.slice none 0 0]) KQ.out 0 _ rfl) Tryd.underlying26 rfl (by kernel_rfl)) rfl ?_
 refine ⟨_,rfl,Kd.c_6 _ _ _ _ _,((HB.out.setCell GEn.out _).mono HBS.out |>.trans HBB.out).setCell (Nat.le_trans HBS.out GEq.out) _,HJ.out _ _ HJ2.out (fun k_ hk_ => b_V (HM.out _ hk_) GEq.out),fun k_ hk_ hm_ => ?_⟩
 refine (b_V hk_ GEq.out).trans ((HK.out k_ (by have:=HB.out.size;simp [World.setCell];omega) (Nat.ne_of_lt (Nat.lt_of_lt_of_le hk_ GEn.out)) hm_ (fun e_ => Nat.not_lt.2 (Kd.b_6 HOv.out k_ e_.symm) hk_)).trans ?_)
 exact (b_V hk_ GEn.out).trans (HB.out.block k_ hk_)
set_option maxHeartbeats 2000000 in
theorem b_x.bad (g : Nat) (lb : Array Value) (k : Nat) (A0 : Option Addr) (c0 : Nat) (l : List Int) (A1 : Option Addr) (c1 : Nat) (ns : List Int) (w : World)
 (hr : Kd.C (Kd.int .u32) w A0 l.length l) (hc : l.length ≤ c0) (hr1 : Kd.C (Kd.int .i64) w A1 ns.length ns) (hc1 : ns.length ≤ c1) (e1 : Int) (hec : a_n.f k l = some e1) (he1 : e1 ≠ 0) :
 Calls Tryd.prog 18 #[.agg #[.slice A0 l.length c0],.func (.func g) #[] lb,.slice A1 ns.length c1] w fun e w' => e = .returned (.tuple #[.agg #[.slice none 0 0],.int .i64 e1]) ∧ Below w.heap.size w w':=by
 have HR:=a_a.mk hr
 have HC:=a_a.mk hc
 have HR1:=a_a.mk hr1
 have HC1:=a_a.mk hc1
 have HE:=a_a.mk hec
 clear hr hc hr1 hc1 hec
 have HB:=a_a.mk (Below.refl w.heap.size w)
 have hb1 : (e1 != 0) = true:=bne_iff_ne.mpr he1
 clear he1
 go_enter Tryd.func18,Tryd.ntmps18
 go_wp2_with (first
  | ((with_reducible refine a_u (N:=3) rfl ?_);refine a_t ?hg (N:=3) ?hd (cs:=#[.slice A0 l.length c0]) (t:=26) ?hr ?_;(case hd => rfl);(case hg => rfl);(case hr => first|(go_simp;done)|(go_simp;rfl));intro gbp hg wbp hbox hb;have m0_:=a_a.mk (a_i HB.out hb);have m1_:=a_a.mk (hbox);have m2_:=a_a.mk ((by rw [hg];exact HB.out.size : w.heap.size ≤ gbp));(try clear HB);have HB:=m0_;have BKp:=m1_;have GEp:=m2_;clear m0_ m1_ m2_ hb hbox hg)
  | ((with_reducible refine a_u (N:=6) rfl ?_);refine a_t ?hg (N:=6) ?hd (cs:=#[.slice none 0 0]) (t:=26) ?hr ?_;(case hd => rfl);(case hg => rfl);(case hr => first|(go_simp;done)|(go_simp;rfl));intro gbq hg wbq hbox hb;have m0_:=a_a.mk (a_b (g:=gbp) (o:=.cells #[.slice A0 l.length c0] 26 (0,0)) BKp.out hb);have m1_:=a_a.mk (a_i HB.out hb);have m2_:=a_a.mk (hbox);have m3_:=a_a.mk ((by rw [hg];exact HB.out.size : w.heap.size ≤ gbq));have m4_:=a_a.mk ((by rw [hg];exact Nat.ne_of_lt (a_k BKp.out) : gbp ≠ gbq));have m5_:=a_a.mk ((by rw [hg];exact Nat.ne_of_gt (a_k BKp.out) : gbq ≠ gbp));(try clear BKp);(try clear HB);have BKp:=m0_;have HB:=m1_;have BKq:=m2_;have GEq:=m3_;have NBp_q:=m4_;have NBq_p:=m5_;clear m0_ m1_ m2_ m3_ m4_ m5_ hb hbox hg;have hcz1_p_0 : World.cell? _ ⟨gbp,0,none⟩ = some (.slice A0 l.length c0):=(a_h BKp.out 0).trans rfl;have hfz1_p:=a_f BKp.out 0)
  | (go_at_call 12;(with_reducible refine (a_n.calls k _ _ l e1 _ ?s1 HC.out HE.out).mono ?_);(case s1 => exact Kd.a_K HR.out HB.out);rintro e w' ⟨rfl,hb⟩;clear hcz1_p_0 hfz1_p;have m0_:=a_a.mk (a_b (g:=gbp) (o:=.cells #[.slice A0 l.length c0] 26 (0,0)) BKp.out hb);have m1_:=a_a.mk (a_b (g:=gbq) (o:=.cells #[.slice none 0 0] 26 (0,0)) BKq.out hb);have m2_:=a_a.mk (a_i HB.out hb);(try clear BKp);(try clear BKq);(try clear HB);have BKp:=m0_;have BKq:=m1_;have HB:=m2_;clear m0_ m1_ m2_ hb;have hcz2_p_0 : World.cell? _ ⟨gbp,0,none⟩ = some (.slice A0 l.length c0):=(a_h BKp.out 0).trans rfl;have hfz2_p:=a_f BKp.out 0;have hcz2_q_0 : World.cell? _ ⟨gbq,0,none⟩ = some (.slice none 0 0):=(a_h BKq.out 0).trans rfl;have hfz2_q:=a_f BKq.out 0))
 refine bodyPost_ret (b_q rfl _ _ gbq 26 #[.slice none 0 0] (0,0) _ rfl (a_D (cs:=#[.slice none 0 0]) BKq.out 0 _ rfl) Tryd.underlying26 rfl (by kernel_rfl)) rfl ?_
 exact ⟨rfl,HB.out.setCell GEq.out _⟩
set_option maxHeartbeats 2000000 in
theorem b_x.lacks (g : Nat) (lb : Array Value) (k : Nat) (A0 : Option Addr) (c0 : Nat) (l : List Int) (A1 : Option Addr) (c1 : Nat) (ns : List Int) (w : World)
 (hr : Kd.C (Kd.int .u32) w A0 l.length l) (hc : l.length ≤ c0) (hr1 : Kd.C (Kd.int .i64) w A1 ns.length ns) (hc1 : ns.length ≤ c1) (hec : a_n.f k l = some 0) (hp : a_F.f l ns = some false) :
 Calls Tryd.prog 18 #[.agg #[.slice A0 l.length c0],.func (.func g) #[] lb,.slice A1 ns.length c1] w fun e w' => e = .returned (.tuple #[.agg #[.slice none 0 0],.int .i64 4]) ∧ Below w.heap.size w w':=by
 have HR:=a_a.mk hr
 have HC:=a_a.mk hc
 have HR1:=a_a.mk hr1
 have HC1:=a_a.mk hc1
 have HE:=a_a.mk hec
 clear hr hc hr1 hc1 hec
 have HB:=a_a.mk (Below.refl w.heap.size w)
 have HP:=a_a.mk hp
 clear hp
 go_enter Tryd.func18,Tryd.ntmps18
 go_wp2_with (first
  | ((with_reducible refine a_u (N:=3) rfl ?_);refine a_t ?hg (N:=3) ?hd (cs:=#[.slice A0 l.length c0]) (t:=26) ?hr ?_;(case hd => rfl);(case hg => rfl);(case hr => first|(go_simp;done)|(go_simp;rfl));intro gbp hg wbp hbox hb;have m0_:=a_a.mk (a_i HB.out hb);have m1_:=a_a.mk (hbox);have m2_:=a_a.mk ((by rw [hg];exact HB.out.size : w.heap.size ≤ gbp));(try clear HB);have HB:=m0_;have BKp:=m1_;have GEp:=m2_;clear m0_ m1_ m2_ hb hbox hg)
  | ((with_reducible refine a_u (N:=6) rfl ?_);refine a_t ?hg (N:=6) ?hd (cs:=#[.slice none 0 0]) (t:=26) ?hr ?_;(case hd => rfl);(case hg => rfl);(case hr => first|(go_simp;done)|(go_simp;rfl));intro gbq hg wbq hbox hb;have m0_:=a_a.mk (a_b (g:=gbp) (o:=.cells #[.slice A0 l.length c0] 26 (0,0)) BKp.out hb);have m1_:=a_a.mk (a_i HB.out hb);have m2_:=a_a.mk (hbox);have m3_:=a_a.mk ((by rw [hg];exact HB.out.size : w.heap.size ≤ gbq));have m4_:=a_a.mk ((by rw [hg];exact Nat.ne_of_lt (a_k BKp.out) : gbp ≠ gbq));have m5_:=a_a.mk ((by rw [hg];exact Nat.ne_of_gt (a_k BKp.out) : gbq ≠ gbp));(try clear BKp);(try clear HB);have BKp:=m0_;have HB:=m1_;have BKq:=m2_;have GEq:=m3_;have NBp_q:=m4_;have NBq_p:=m5_;clear m0_ m1_ m2_ m3_ m4_ m5_ hb hbox hg;have hcz1_p_0 : World.cell? _ ⟨gbp,0,none⟩ = some (.slice A0 l.length c0):=(a_h BKp.out 0).trans rfl;have hfz1_p:=a_f BKp.out 0)
  | (go_at_call 12;(with_reducible refine (a_n.calls k _ _ l 0 _ ?s1 HC.out HE.out).mono ?_);(case s1 => exact Kd.a_K HR.out HB.out);rintro e w' ⟨rfl,hb⟩;clear hcz1_p_0 hfz1_p;have m0_:=a_a.mk (a_b (g:=gbp) (o:=.cells #[.slice A0 l.length c0] 26 (0,0)) BKp.out hb);have m1_:=a_a.mk (a_b (g:=gbq) (o:=.cells #[.slice none 0 0] 26 (0,0)) BKq.out hb);have m2_:=a_a.mk (a_i HB.out hb);(try clear BKp);(try clear BKq);(try clear HB);have BKp:=m0_;have BKq:=m1_;have HB:=m2_;clear m0_ m1_ m2_ hb;have hcz2_p_0 : World.cell? _ ⟨gbp,0,none⟩ = some (.slice A0 l.length c0):=(a_h BKp.out 0).trans rfl;have hfz2_p:=a_f BKp.out 0;have hcz2_q_0 : World.cell? _ ⟨gbq,0,none⟩ = some (.slice none 0 0):=(a_h BKq.out 0).trans rfl;have hfz2_q:=a_f BKq.out 0)
  | (go_at_call 25;(with_reducible refine (a_F.calls _ _ l _ _ ns false _ ?s1 HC.out ?s2 HC1.out HP.out).mono ?_);(case s1 => exact Kd.a_K HR.out HB.out);(case s2 => exact Kd.a_K HR1.out HB.out);rintro e w' ⟨rfl,hb⟩;clear hcz2_p_0 hcz2_q_0 hfz2_p hfz2_q;have m0_:=a_a.mk (a_b (g:=gbp) (o:=.cells #[.slice A0 l.length c0] 26 (0,0)) BKp.out hb);have m1_:=a_a.mk (a_b (g:=gbq) (o:=.cells #[.slice none 0 0] 26 (0,0)) BKq.out hb);have m2_:=a_a.mk (a_i HB.out hb);(try clear BKp);(try clear BKq);(try clear HB);have BKp:=m0_;have BKq:=m1_;have HB:=m2_;clear m0_ m1_ m2_ hb;have hcz3_p_0 : World.cell? _ ⟨gbp,0,none⟩ = some (.slice A0 l.length c0):=(a_h BKp.out 0).trans rfl;have hfz3_p:=a_f BKp.out 0;have hcz3_q_0 : World.cell? _ ⟨gbq,0,none⟩ = some (.slice none 0 0):=(a_h BKq.out 0).trans rfl;have hfz3_q:=a_f BKq.out 0))
 refine bodyPost_ret (b_q rfl _ _ gbq 26 #[.slice none 0 0] (0,0) _ rfl (a_D (cs:=#[.slice none 0 0]) BKq.out 0 _ rfl) Tryd.underlying26 rfl (by kernel_rfl)) rfl ?_
 exact ⟨rfl,HB.out.setCell GEq.out _⟩
end Go.Proofs.YtkhbffjfclepfaaDoor.Q
end
section
namespace Go.Proofs.YtkhbffjfclepfaaDoor.Q
open Go.RowKit Go.Proofs.YtkhbffjfclepfaaDoorW.PrintWords Go.Proofs.YtkhbffjfclepfaaDoorW.PrintLast Go.Proofs.YtkhbffjfclepfaaDoorW.PrintMore
set_option linter.unusedVariables false
set_option linter.unusedSimpArgs false
def a_Z.f (a0 : Int) (a1 : Int) : Option (Bool):=some ((Go.bits .andNot .u32 (Go.bits .and .u32 a0 255) a1) == 0)
set_option maxHeartbeats 8000000 in
set_option maxRecDepth 100000 in
theorem a_Z.calls (a0 : Int) (a1 : Int) (r : Bool) (w : World) (h : a_Z.f a0 a1 = some r) :
 Calls Tryd.prog 21 #[.int .u32 a0,.int .u32 a1] w fun e w' => e = .returned (.bool r) ∧ a_2 w w':=by
 have H : (some ((Go.bits .andNot .u32 (Go.bits .and .u32 a0 255) a1) == 0)) = some r:=h
 clear h
 obtain rfl:=Option.some.inj H
 go_enter Tryd.func21,Tryd.ntmps21
 go_wp2
 go_ret
 exact ⟨by first|rfl|(simp;done)|(simp [*];done),by repeat (first|exact a_2.refl _|apply a_2.step)⟩
end Go.Proofs.YtkhbffjfclepfaaDoor.Q
end
