/- Part 3 of 11 of what the row of AuditOne stands on: contracts over the given program's functions, the plain law, the row; no condition beyond those that each theorem states. -/
import Derived.Test.YtgglkfilkagblaaDoorXAuditOne1
import Derived.Test.YtgglkfilkagblaaDoorProg
import Derived.Shelf.Abstract
import Derived.Laws.EntriesVeiled
import Derived.WalkSpells
import Derived.Shelf.Spec.TrailingZeros
import Derived.Test.YtgglkfilkagblaaDoorRows
import Derived.Deep.Slices
import Derived.ChangeArms
import Derived.DataReads
import Derived.ProofKit
import Derived.OpenShut
import Derived.ChangeOld
import Derived.SizedLaws
section
namespace Go.Proofs.YtgglkfilkagblaaDoor
open Go.RowKit Go.Proofs.YtgglkfilkagblaaDoorW.PrintWords Go.Proofs.YtgglkfilkagblaaDoorW.PrintLast Go.Proofs.YtgglkfilkagblaaDoorW.PrintMore
def Up_ (w W : World) : Prop:=Below w.heap.size w W
instance (priority:=low) up0_ (w : World) : Nonempty (Up_ w w):=⟨Below.refl _ _⟩
instance upA_ (w W : World) (o : Obj) [h : Nonempty (Up_ w W)] : Nonempty (Up_ w (W.alloc o)):=h.elim fun h => ⟨a_j h o⟩
instance upN_ (w W : World) (n : Nat) [h : Nonempty (Up_ w W)] : Nonempty (Up_ w (W.drewN n)):=h.elim fun h => ⟨a_h h n⟩
instance upD_ (w W : World) [h : Nonempty (Up_ w W)] : Nonempty (Up_ w W.drew):=h.elim fun h => ⟨e_s h⟩
theorem bup_ {w W : World} {g : Nat} {o : Obj} (h : w.heap[g]? = some o) [u : Nonempty (Up_ w W)] : W.heap[g]? = some o:=u.elim fun b => a_l h b
theorem rup_ {α : Type} {d : Kd α} {e : Nat} {w W : World} {base : Nat} {ok : Nat → Prop} {v : Value} {xs : List α} (h : d.R e w base ok v xs) [u : Nonempty (Up_ w W)] : d.R e W base ok v xs:=u.elim fun b => Kd.c_i h b
theorem lup_ {w0 w W : World} (h : Below w0.heap.size w0 w) [u : Nonempty (Up_ w W)] : Below w0.heap.size w0 W:=u.elim fun b => a_q h b
abbrev T_ : Bool:=true
abbrev F_ : Bool:=false
theorem sa_ {α : Type} (l : List α) (i : Nat) (a : α) : l.toArray.setIfInBounds i a = (l.set i a).toArray:=List.setIfInBounds_toArray l i a
theorem sb_ {α : Type} (x : α) (l : List α) (a : α) : (x :: l).set 0 a = a :: l:=rfl
theorem sc_ {α : Type} (x : α) (l : List α) (i : Nat) (a : α) : (x :: l).set (i + 1) a = x :: l.set i a:=rfl
section
variable {P : Program} {ops : Array Oper} {Q : Exit → Act → World → Prop} {md : Region.Mode} {S : World → Prop} {ds : List Nat} {T : Bool × List (List Nat × List Nat)}
theorem pk_ {oi : Oper} {fuel : Nat} {l : Array Bool} {a a' : Act} {w : World} (i : Nat) (N : Option Tmp) (l' : Array Bool) (HT : a_f (rtab md ops = T)) (h : b_e P md ops Q S ds fuel l' a' w) (hi : ops[i]? = some oi:=by rfl) (hN : oi.dst = N:=by rfl) (hc : anyT T l.toList l'.toList i = true:=by kernel_rfl) (hQ : ∀ c a w,Q (.panic c) (a.put oi.dst undef) w → Q (.panic c) a w:=by exact fun _ _ _ h => h) (hg : Region.wanted oi (yielded ops a.tmps) = false:=by rfl) (ha : a.put N undef = a':=by simp only [Act.put,sa_,sb_,sc_,a_Y,a_0];rfl) : b_e P md ops Q S ds (fuel + 1) l a w:=f_U l' hi hN (e_r HT.out hc) hQ (Or.inr ⟨hg,rfl⟩) ha h
theorem pt_ {oi : Oper} {fuel : Nat} {l : Array Bool} {a a' : Act} {w : World} {v : Value} (i : Nat) (N : Option Tmp) (l' : Array Bool) (HT : a_f (rtab md ops = T)) (h : b_e P md ops Q S ds fuel l' a' w) (hi : ops[i]? = some oi:=by rfl) (hN : oi.dst = N:=by rfl) (hc : anyT T l.toList l'.toList i = true:=by kernel_rfl) (hQ : ∀ c a w,Q (.panic c) (a.put oi.dst v) w → Q (.panic c) a w:=by exact fun _ _ _ h => h) (hg : Region.wanted oi (yielded ops a.tmps) = true:=by rfl) (hv : ∀ w',(execOp a.eval oi).run P w' = .ok (.value v) w':=by intro w';go_simp;with_reducible rfl) (ha : a.put N v = a':=by simp only [Act.put,sa_,sb_,sc_,a_Y,a_0];rfl) : b_e P md ops Q S ds (fuel + 1) l a w:=f_U l' hi hN (e_r HT.out hc) hQ (Or.inl ⟨hg,hv⟩) ha h
end
abbrev Z0_ : Array Bool:=#[F_,F_,F_,F_,F_,F_,F_,F_,F_,F_,F_,F_,F_,F_,F_,F_,F_,F_,F_,F_,F_,F_,F_,F_,F_,F_,F_,F_,F_,F_,F_,F_,F_,F_,F_,F_,F_]
abbrev Z1_ : Array Bool:=#[F_,F_,F_,F_,F_,F_,F_,F_,F_,F_,F_,F_,F_,F_,F_,F_,F_,F_,F_,F_,F_,F_,F_,F_,F_,F_]
abbrev Z2_ : Array Bool:=#[T_,F_,F_,F_,F_,F_,F_,F_,F_,F_,F_,F_,F_,F_,F_,F_,F_,F_,F_,F_,F_,F_,F_,F_,F_,F_,F_,F_,F_,F_,F_,F_,F_,F_,F_,F_,F_]
abbrev Z3_ : Array Bool:=#[T_,F_,F_,F_,F_,F_,F_,F_,F_,F_,F_,F_,F_,F_,F_,F_,F_,F_,F_,F_,F_,F_,F_,F_,F_,F_]
abbrev Z4_ : Array Bool:=#[T_,T_,F_,F_,F_,F_,F_,F_,F_,F_,F_,F_,F_,F_,F_,F_,F_,F_,F_,F_,F_,F_,F_,F_,F_,F_,F_,F_,F_,F_,F_,F_,F_,F_,F_,F_,F_]
abbrev Z5_ : Array Bool:=#[T_,T_,F_,F_,F_,F_,F_,F_,F_,F_,F_,F_,F_,F_,F_,F_,F_,F_,F_,F_,F_,F_,F_,F_,F_,F_]
abbrev Z6_ : Array Bool:=#[T_,T_,T_,F_,F_,F_,F_,F_,F_,F_,F_,F_,F_,F_,F_,F_,F_,F_,F_,F_,F_,F_,F_,F_,F_,F_,F_,F_,F_,F_,F_,F_,F_,F_,F_,F_,F_]
abbrev Z7_ : Array Bool:=#[T_,T_,T_,F_,F_,F_,F_,F_,F_,F_,F_,F_,F_,F_,F_,F_,F_,F_,F_,F_,F_,F_,F_,F_,F_,F_]
abbrev Z8_ : Array Bool:=#[T_,T_,T_,T_,F_,F_,F_,F_,F_,F_,F_,F_,F_,F_,F_,F_,F_,F_,F_,F_,F_,F_,F_,F_,F_,F_,F_,F_,F_,F_,F_,F_,F_,F_,F_,F_,F_]
abbrev Z9_ : Array Bool:=#[T_,T_,T_,T_,F_,F_,F_,F_,F_,F_,F_,F_,F_,F_,F_,F_,F_,F_,F_,F_,F_,F_,F_,F_,F_,F_]
abbrev Z10_ : Array Bool:=#[T_,T_,T_,T_,T_,F_,F_,F_,F_,F_,F_,F_,F_,F_,F_,F_,F_,F_,F_,F_,F_,F_,F_,F_,F_,F_,F_,F_,F_,F_,F_,F_,F_,F_,F_,F_,F_]
abbrev Z11_ : Array Bool:=#[T_,T_,T_,T_,T_,F_,F_,F_,F_,F_,F_,F_,F_,F_,F_,F_,F_,F_,F_,F_,F_,F_,F_,F_,F_,F_]
abbrev Z12_ : Array Bool:=#[T_,T_,T_,T_,T_,F_,T_,F_,F_,F_,F_,F_,F_,F_,F_,F_,F_,F_,F_,F_,F_,F_,F_,F_,F_,F_]
abbrev Z13_ : Array Bool:=#[T_,T_,T_,T_,T_,T_,F_,F_,F_,F_,F_,F_,F_,F_,F_,F_,F_,F_,F_,F_,F_,F_,F_,F_,F_,F_,F_,F_,F_,F_,F_,F_,F_,F_,F_,F_,F_]
abbrev Z14_ : Array Bool:=#[T_,T_,T_,T_,T_,T_,T_,F_,F_,F_,F_,F_,F_,F_,F_,F_,F_,F_,F_,F_,F_,F_,F_,F_,F_,F_,F_,F_,F_,F_,F_,F_,F_,F_,F_,F_,F_]
abbrev Z15_ : Array Bool:=#[T_,T_,T_,T_,T_,T_,T_,F_,F_,F_,F_,F_,F_,F_,F_,F_,F_,F_,F_,F_,F_,F_,F_,F_,F_,F_]
abbrev Z16_ : Array Bool:=#[T_,T_,T_,T_,T_,T_,T_,T_,F_,F_,F_,F_,F_,F_,F_,F_,F_,F_,F_,F_,F_,F_,F_,F_,F_,F_,F_,F_,F_,F_,F_,F_,F_,F_,F_,F_,F_]
abbrev Z17_ : Array Bool:=#[T_,T_,T_,T_,T_,T_,T_,T_,F_,F_,F_,F_,F_,F_,F_,F_,F_,F_,F_,F_,F_,F_,F_,F_,F_,F_]
abbrev Z18_ : Array Bool:=#[T_,T_,T_,T_,T_,T_,T_,T_,F_,T_,F_,F_,F_,F_,F_,F_,F_,F_,F_,F_,F_,F_,F_,F_,F_,F_,F_,F_,F_,F_,F_,F_,F_,F_,F_,F_,F_]
abbrev Z19_ : Array Bool:=#[T_,T_,T_,T_,T_,T_,T_,T_,F_,T_,T_,F_,F_,F_,F_,F_,F_,F_,F_,F_,F_,F_,F_,F_,F_,F_,F_,F_,F_,F_,F_,F_,F_,F_,F_,F_,F_]
abbrev Z20_ : Array Bool:=#[T_,T_,T_,T_,T_,T_,T_,T_,F_,T_,T_,F_,F_,F_,T_,F_,F_,F_,F_,F_,F_,F_,F_,F_,F_,F_,F_,F_,F_,F_,F_,F_,F_,F_,F_,F_,F_]
abbrev Z21_ : Array Bool:=#[T_,T_,T_,T_,T_,T_,T_,T_,T_,F_,F_,F_,F_,F_,F_,F_,F_,F_,F_,F_,F_,F_,F_,F_,F_,F_,F_,F_,F_,F_,F_,F_,F_,F_,F_,F_,F_]
abbrev Z22_ : Array Bool:=#[T_,T_,T_,T_,T_,T_,T_,T_,T_,F_,F_,F_,F_,F_,F_,F_,F_,F_,F_,F_,F_,F_,F_,F_,F_,F_]
abbrev Z23_ : Array Bool:=#[T_,T_,T_,T_,T_,T_,T_,T_,T_,T_,F_,F_,F_,F_,F_,F_,F_,F_,F_,F_,F_,F_,F_,F_,F_,F_,F_,F_,F_,F_,F_,F_,F_,F_,F_,F_,F_]
abbrev Z24_ : Array Bool:=#[T_,T_,T_,T_,T_,T_,T_,T_,T_,T_,F_,F_,F_,F_,F_,F_,F_,F_,F_,F_,F_,F_,F_,F_,F_,F_]
abbrev Z25_ : Array Bool:=#[T_,T_,T_,T_,T_,T_,T_,T_,T_,T_,T_,F_,F_,F_,F_,F_,F_,F_,F_,F_,F_,F_,F_,F_,F_,F_,F_,F_,F_,F_,F_,F_,F_,F_,F_,F_,F_]
abbrev Z26_ : Array Bool:=#[T_,T_,T_,T_,T_,T_,T_,T_,T_,T_,T_,F_,F_,F_,F_,F_,F_,F_,F_,F_,F_,F_,F_,F_,F_,F_]
abbrev Z27_ : Array Bool:=#[T_,T_,T_,T_,T_,T_,T_,T_,T_,T_,T_,F_,F_,F_,T_,F_,F_,F_,F_,F_,F_,F_,F_,F_,F_,F_,F_,F_,F_,F_,F_,F_,F_,F_,F_,F_,F_]
abbrev Z28_ : Array Bool:=#[T_,T_,T_,T_,T_,T_,T_,T_,T_,T_,T_,T_,F_,F_,F_,F_,F_,F_,F_,F_,F_,F_,F_,F_,F_,F_,F_,F_,F_,F_,F_,F_,F_,F_,F_,F_,F_]
abbrev Z29_ : Array Bool:=#[T_,T_,T_,T_,T_,T_,T_,T_,T_,T_,T_,T_,F_,F_,F_,F_,F_,F_,F_,F_,F_,F_,F_,F_,F_,F_]
abbrev Z30_ : Array Bool:=#[T_,T_,T_,T_,T_,T_,T_,T_,T_,T_,T_,T_,F_,F_,T_,F_,F_,F_,F_,F_,F_,F_,F_,F_,F_,F_,F_,F_,F_,F_,F_,F_,F_,F_,F_,F_,F_]
abbrev Z31_ : Array Bool:=#[T_,T_,T_,T_,T_,T_,T_,T_,T_,T_,T_,T_,T_,F_,F_,F_,F_,F_,F_,F_,F_,F_,F_,F_,F_,F_,F_,F_,F_,F_,F_,F_,F_,F_,F_,F_,F_]
abbrev Z32_ : Array Bool:=#[T_,T_,T_,T_,T_,T_,T_,T_,T_,T_,T_,T_,T_,F_,F_,F_,F_,F_,F_,F_,F_,F_,F_,F_,F_,F_]
abbrev Z33_ : Array Bool:=#[T_,T_,T_,T_,T_,T_,T_,T_,T_,T_,T_,T_,T_,F_,T_,F_,F_,F_,F_,F_,F_,F_,F_,F_,F_,F_,F_,F_,F_,F_,F_,F_,F_,F_,F_,F_,F_]
abbrev Z34_ : Array Bool:=#[T_,T_,T_,T_,T_,T_,T_,T_,T_,T_,T_,T_,T_,T_,F_,F_,F_,F_,F_,F_,F_,F_,F_,F_,F_,F_,F_,F_,F_,F_,F_,F_,F_,F_,F_,F_,F_]
abbrev Z35_ : Array Bool:=#[T_,T_,T_,T_,T_,T_,T_,T_,T_,T_,T_,T_,T_,T_,F_,F_,F_,F_,F_,F_,F_,F_,F_,F_,F_,F_]
abbrev Z36_ : Array Bool:=#[T_,T_,T_,T_,T_,T_,T_,T_,T_,T_,T_,T_,T_,T_,T_,F_,F_,F_,F_,F_,F_,F_,F_,F_,F_,F_,F_,F_,F_,F_,F_,F_,F_,F_,F_,F_,F_]
abbrev Z37_ : Array Bool:=#[T_,T_,T_,T_,T_,T_,T_,T_,T_,T_,T_,T_,T_,T_,T_,F_,F_,F_,F_,F_,F_,F_,F_,F_,F_,F_]
abbrev Z38_ : Array Bool:=#[T_,T_,T_,T_,T_,T_,T_,T_,T_,T_,T_,T_,T_,T_,T_,F_,T_,F_,F_,F_,F_,F_,F_,F_,F_,F_]
abbrev Z39_ : Array Bool:=#[T_,T_,T_,T_,T_,T_,T_,T_,T_,T_,T_,T_,T_,T_,T_,F_,T_,T_,F_,F_,F_,F_,F_,F_,F_,F_]
abbrev Z40_ : Array Bool:=#[T_,T_,T_,T_,T_,T_,T_,T_,T_,T_,T_,T_,T_,T_,T_,F_,T_,T_,F_,F_,F_,T_,F_,F_,F_,F_]
abbrev Z41_ : Array Bool:=#[T_,T_,T_,T_,T_,T_,T_,T_,T_,T_,T_,T_,T_,T_,T_,T_,F_,F_,F_,F_,F_,F_,F_,F_,F_,F_,F_,F_,F_,F_,F_,F_,F_,F_,F_,F_,F_]
abbrev Z42_ : Array Bool:=#[T_,T_,T_,T_,T_,T_,T_,T_,T_,T_,T_,T_,T_,T_,T_,T_,F_,F_,F_,F_,F_,F_,F_,F_,F_,F_]
abbrev Z43_ : Array Bool:=#[T_,T_,T_,T_,T_,T_,T_,T_,T_,T_,T_,T_,T_,T_,T_,T_,T_,F_,F_,F_,F_,F_,F_,F_,F_,F_,F_,F_,F_,F_,F_,F_,F_,F_,F_,F_,F_]
abbrev Z44_ : Array Bool:=#[T_,T_,T_,T_,T_,T_,T_,T_,T_,T_,T_,T_,T_,T_,T_,T_,T_,F_,F_,F_,F_,F_,F_,F_,F_,F_]
abbrev Z45_ : Array Bool:=#[T_,T_,T_,T_,T_,T_,T_,T_,T_,T_,T_,T_,T_,T_,T_,T_,T_,T_,F_,F_,F_,F_,F_,F_,F_,F_,F_,F_,F_,F_,F_,F_,F_,F_,F_,F_,F_]
abbrev Z46_ : Array Bool:=#[T_,T_,T_,T_,T_,T_,T_,T_,T_,T_,T_,T_,T_,T_,T_,T_,T_,T_,F_,F_,F_,F_,F_,F_,F_,F_]
abbrev Z47_ : Array Bool:=#[T_,T_,T_,T_,T_,T_,T_,T_,T_,T_,T_,T_,T_,T_,T_,T_,T_,T_,F_,F_,F_,T_,F_,F_,F_,F_]
abbrev Z48_ : Array Bool:=#[T_,T_,T_,T_,T_,T_,T_,T_,T_,T_,T_,T_,T_,T_,T_,T_,T_,T_,T_,F_,F_,F_,F_,F_,F_,F_,F_,F_,F_,F_,F_,F_,F_,F_,F_,F_,F_]
abbrev Z49_ : Array Bool:=#[T_,T_,T_,T_,T_,T_,T_,T_,T_,T_,T_,T_,T_,T_,T_,T_,T_,T_,T_,F_,F_,F_,F_,F_,F_,F_]
abbrev Z50_ : Array Bool:=#[T_,T_,T_,T_,T_,T_,T_,T_,T_,T_,T_,T_,T_,T_,T_,T_,T_,T_,T_,F_,F_,T_,F_,F_,F_,F_]
abbrev Z51_ : Array Bool:=#[T_,T_,T_,T_,T_,T_,T_,T_,T_,T_,T_,T_,T_,T_,T_,T_,T_,T_,T_,T_,F_,F_,F_,F_,F_,F_,F_,F_,F_,F_,F_,F_,F_,F_,F_,F_,F_]
abbrev Z52_ : Array Bool:=#[T_,T_,T_,T_,T_,T_,T_,T_,T_,T_,T_,T_,T_,T_,T_,T_,T_,T_,T_,T_,F_,F_,F_,F_,F_,F_]
abbrev Z53_ : Array Bool:=#[T_,T_,T_,T_,T_,T_,T_,T_,T_,T_,T_,T_,T_,T_,T_,T_,T_,T_,T_,T_,F_,T_,F_,F_,F_,F_]
abbrev Z54_ : Array Bool:=#[T_,T_,T_,T_,T_,T_,T_,T_,T_,T_,T_,T_,T_,T_,T_,T_,T_,T_,T_,T_,T_,F_,F_,F_,F_,F_,F_,F_,F_,F_,F_,F_,F_,F_,F_,F_,F_]
abbrev Z55_ : Array Bool:=#[T_,T_,T_,T_,T_,T_,T_,T_,T_,T_,T_,T_,T_,T_,T_,T_,T_,T_,T_,T_,T_,F_,F_,F_,F_,F_]
abbrev Z56_ : Array Bool:=#[T_,T_,T_,T_,T_,T_,T_,T_,T_,T_,T_,T_,T_,T_,T_,T_,T_,T_,T_,T_,T_,F_,F_,F_,T_,F_,F_,F_,F_,F_,F_,F_,F_,F_,F_,F_,F_]
abbrev Z57_ : Array Bool:=#[T_,T_,T_,T_,T_,T_,T_,T_,T_,T_,T_,T_,T_,T_,T_,T_,T_,T_,T_,T_,T_,T_,F_,F_,F_,F_,F_,F_,F_,F_,F_,F_,F_,F_,F_,F_,F_]
abbrev Z58_ : Array Bool:=#[T_,T_,T_,T_,T_,T_,T_,T_,T_,T_,T_,T_,T_,T_,T_,T_,T_,T_,T_,T_,T_,T_,F_,F_,F_,F_]
abbrev Z59_ : Array Bool:=#[T_,T_,T_,T_,T_,T_,T_,T_,T_,T_,T_,T_,T_,T_,T_,T_,T_,T_,T_,T_,T_,T_,F_,F_,T_,F_,F_,F_,F_,F_,F_,F_,F_,F_,F_,F_,F_]
abbrev Z60_ : Array Bool:=#[T_,T_,T_,T_,T_,T_,T_,T_,T_,T_,T_,T_,T_,T_,T_,T_,T_,T_,T_,T_,T_,T_,T_,F_,F_,F_,F_,F_,F_,F_,F_,F_,F_,F_,F_,F_,F_]
abbrev Z61_ : Array Bool:=#[T_,T_,T_,T_,T_,T_,T_,T_,T_,T_,T_,T_,T_,T_,T_,T_,T_,T_,T_,T_,T_,T_,T_,F_,F_,F_]
abbrev Z62_ : Array Bool:=#[T_,T_,T_,T_,T_,T_,T_,T_,T_,T_,T_,T_,T_,T_,T_,T_,T_,T_,T_,T_,T_,T_,T_,F_,T_,F_,F_,F_,F_,F_,F_,F_,F_,F_,F_,F_,F_]
abbrev Z63_ : Array Bool:=#[T_,T_,T_,T_,T_,T_,T_,T_,T_,T_,T_,T_,T_,T_,T_,T_,T_,T_,T_,T_,T_,T_,T_,F_,T_,T_,F_,F_,F_,F_,F_,F_,F_,F_,F_,F_,F_]
abbrev Z64_ : Array Bool:=#[T_,T_,T_,T_,T_,T_,T_,T_,T_,T_,T_,T_,T_,T_,T_,T_,T_,T_,T_,T_,T_,T_,T_,T_,F_,F_,F_,F_,F_,F_,F_,F_,F_,F_,F_,F_,F_]
abbrev Z65_ : Array Bool:=#[T_,T_,T_,T_,T_,T_,T_,T_,T_,T_,T_,T_,T_,T_,T_,T_,T_,T_,T_,T_,T_,T_,T_,T_,F_,F_]
abbrev Z66_ : Array Bool:=#[T_,T_,T_,T_,T_,T_,T_,T_,T_,T_,T_,T_,T_,T_,T_,T_,T_,T_,T_,T_,T_,T_,T_,T_,T_,F_,F_,F_,F_,F_,F_,F_,F_,F_,F_,F_,F_]
abbrev Z67_ : Array Bool:=#[T_,T_,T_,T_,T_,T_,T_,T_,T_,T_,T_,T_,T_,T_,T_,T_,T_,T_,T_,T_,T_,T_,T_,T_,T_,F_]
abbrev Z68_ : Array Bool:=#[T_,T_,T_,T_,T_,T_,T_,T_,T_,T_,T_,T_,T_,T_,T_,T_,T_,T_,T_,T_,T_,T_,T_,T_,T_,T_,F_,F_,F_,F_,F_,F_,F_,F_,F_,F_,F_]
abbrev Z69_ : Array Bool:=#[T_,T_,T_,T_,T_,T_,T_,T_,T_,T_,T_,T_,T_,T_,T_,T_,T_,T_,T_,T_,T_,T_,T_,T_,T_,T_,T_,F_,F_,F_,F_,F_,F_,F_,F_,F_,F_]
abbrev Z70_ : Array Bool:=#[T_,T_,T_,T_,T_,T_,T_,T_,T_,T_,T_,T_,T_,T_,T_,T_,T_,T_,T_,T_,T_,T_,T_,T_,T_,T_,T_,T_,F_,F_,F_,F_,F_,F_,F_,F_,F_]
abbrev Z71_ : Array Bool:=#[T_,T_,T_,T_,T_,T_,T_,T_,T_,T_,T_,T_,T_,T_,T_,T_,T_,T_,T_,T_,T_,T_,T_,T_,T_,T_,T_,T_,T_,F_,F_,F_,F_,F_,F_,F_,F_]
abbrev Z72_ : Array Bool:=#[T_,T_,T_,T_,T_,T_,T_,T_,T_,T_,T_,T_,T_,T_,T_,T_,T_,T_,T_,T_,T_,T_,T_,T_,T_,T_,T_,T_,T_,T_,F_,F_,F_,F_,F_,F_,F_]
abbrev Z73_ : Array Bool:=#[T_,T_,T_,T_,T_,T_,T_,T_,T_,T_,T_,T_,T_,T_,T_,T_,T_,T_,T_,T_,T_,T_,T_,T_,T_,T_,T_,T_,T_,T_,F_,T_,F_,F_,F_,F_,F_]
abbrev Z74_ : Array Bool:=#[T_,T_,T_,T_,T_,T_,T_,T_,T_,T_,T_,T_,T_,T_,T_,T_,T_,T_,T_,T_,T_,T_,T_,T_,T_,T_,T_,T_,T_,T_,F_,T_,F_,T_,F_,F_,F_]
abbrev Z75_ : Array Bool:=#[T_,T_,T_,T_,T_,T_,T_,T_,T_,T_,T_,T_,T_,T_,T_,T_,T_,T_,T_,T_,T_,T_,T_,T_,T_,T_,T_,T_,T_,T_,T_,F_,F_,F_,F_,F_,F_]
abbrev Z76_ : Array Bool:=#[T_,T_,T_,T_,T_,T_,T_,T_,T_,T_,T_,T_,T_,T_,T_,T_,T_,T_,T_,T_,T_,T_,T_,T_,T_,T_,T_,T_,T_,T_,T_,T_,F_,F_,F_,F_,F_]
abbrev Z77_ : Array Bool:=#[T_,T_,T_,T_,T_,T_,T_,T_,T_,T_,T_,T_,T_,T_,T_,T_,T_,T_,T_,T_,T_,T_,T_,T_,T_,T_,T_,T_,T_,T_,T_,T_,F_,T_,F_,F_,F_]
abbrev Z78_ : Array Bool:=#[T_,T_,T_,T_,T_,T_,T_,T_,T_,T_,T_,T_,T_,T_,T_,T_,T_,T_,T_,T_,T_,T_,T_,T_,T_,T_,T_,T_,T_,T_,T_,T_,F_,T_,T_,F_,F_]
abbrev Z79_ : Array Bool:=#[T_,T_,T_,T_,T_,T_,T_,T_,T_,T_,T_,T_,T_,T_,T_,T_,T_,T_,T_,T_,T_,T_,T_,T_,T_,T_,T_,T_,T_,T_,T_,T_,T_,F_,F_,F_,F_]
abbrev Z80_ : Array Bool:=#[T_,T_,T_,T_,T_,T_,T_,T_,T_,T_,T_,T_,T_,T_,T_,T_,T_,T_,T_,T_,T_,T_,T_,T_,T_,T_,T_,T_,T_,T_,T_,T_,T_,T_,F_,F_,F_]
abbrev Z81_ : Array Bool:=#[T_,T_,T_,T_,T_,T_,T_,T_,T_,T_,T_,T_,T_,T_,T_,T_,T_,T_,T_,T_,T_,T_,T_,T_,T_,T_,T_,T_,T_,T_,T_,T_,T_,T_,T_,F_,F_]
abbrev Z82_ : Array Bool:=#[T_,T_,T_,T_,T_,T_,T_,T_,T_,T_,T_,T_,T_,T_,T_,T_,T_,T_,T_,T_,T_,T_,T_,T_,T_,T_,T_,T_,T_,T_,T_,T_,T_,T_,T_,T_,F_]
abbrev Z83_ : Array Bool:=#[T_,T_,T_,T_,T_,T_,T_,T_,T_,T_,T_,T_,T_,T_,T_,T_,T_,T_,T_,T_,T_,T_,T_,T_,T_,T_,T_,T_,T_,T_,T_,T_,T_,T_,T_,T_,T_]
abbrev Z84_ : Array Bool:=#[T_,T_,T_,T_,T_,T_,T_,T_,T_,T_,T_,T_,T_,T_,T_,T_,T_,T_,T_,T_,T_,T_,T_,T_,T_,T_]
end Go.Proofs.YtgglkfilkagblaaDoor
end
section
namespace Go.Proofs.YtgglkfilkagblaaDoor.Q
open Go.RowKit Go.Proofs.YtgglkfilkagblaaDoorW.PrintWords Go.Proofs.YtgglkfilkagblaaDoorW.PrintLast Go.Proofs.YtgglkfilkagblaaDoorW.PrintMore
set_option linter.unusedVariables false
set_option linter.unusedSimpArgs false
def errW : Option Int → Value
 | none => .nilIface
 | some c => .iface 0 (.int .i64 c)
theorem a_u : errW none = .nilIface:=rfl
theorem a_v (c : Int) : errW (some c) = .iface 0 (.int .i64 c):=rfl
theorem info3 : (Tryd.prog.info? 3).map (fun i => (i.zero,i.size,i.bytes)) = some (some (.int .i64 0),1,8):=by kernel_rfl
theorem h_K : (Tryd.prog.info? 24).map (fun i => (i.zero,i.size,i.bytes)) = some (some (.agg #[(.int .i64 0),(.slice none 0 0)]),2,32):=by kernel_rfl
theorem r_I : (Tryd.prog.info? 33).map (fun i => (i.zero,i.size,i.bytes)) = some (some (.agg #[(.int .i64 0),(.int .i64 0),(.int .i64 0),(.int .i64 0),(.int .i64 0),(.bool false),(.bool false),(.int .u32 0),(.int .i64 0),(.int .i64 0),(.int .i64 0)]),11,72):=by kernel_rfl
theorem r_J : (Tryd.prog.info? 49).map (fun i => (i.zero,i.size,i.bytes)) = some (some (.agg #[(.int .i64 0),(.int .i64 0)]),2,16):=by kernel_rfl
structure S33 where
 f0 : Int
 f1 : Int
 f2 : Int
 f3 : Int
 f4 : Int
 f5 : Bool
 f6 : Bool
 f7 : Int
 f8 : Int
 f9 : Int
 f10 : Int
def z33 : S33:=⟨(0 : Int),(0 : Int),(0 : Int),(0 : Int),(0 : Int),false,false,(0 : Int),(0 : Int),(0 : Int),(0 : Int)⟩
def k33 : Kd S33:=Kd.iso (Kd.pair (Kd.int .i64) (Kd.pair (Kd.int .i64) (Kd.pair (Kd.int .i64) (Kd.pair (Kd.int .i64) (Kd.pair (Kd.int .i64) (Kd.pair Kd.bool (Kd.pair Kd.bool (Kd.pair (Kd.int .u32) (Kd.pair (Kd.int .i64) (Kd.pair (Kd.int .i64) (Kd.int .i64))))))))))) (fun x : S33 => (x.f0,x.f1,x.f2,x.f3,x.f4,x.f5,x.f6,x.f7,x.f8,x.f9,x.f10))
theorem m_E {w : World} {x : S33} {cs : List Value} (h : k33.K w x cs) : cs = [.int .i64 x.f0,.int .i64 x.f1,.int .i64 x.f2,.int .i64 x.f3,.int .i64 x.f4,.bool x.f5,.bool x.f6,.int .u32 x.f7,.int .i64 x.f8,.int .i64 x.f9,.int .i64 x.f10]:=by
 obtain ⟨_,_,rfl,rfl,⟨_,_,rfl,rfl,⟨_,_,rfl,rfl,⟨_,_,rfl,rfl,⟨_,_,rfl,rfl,⟨_,_,rfl,rfl,⟨_,_,rfl,rfl,⟨_,_,rfl,rfl,⟨_,_,rfl,rfl,⟨_,_,rfl,rfl,rfl⟩⟩⟩⟩⟩⟩⟩⟩⟩⟩:=h
 exact rfl
theorem f_F {w : World} {base : Nat} {ok : Nat → Prop} {x : S33} {cs : List Value} (h : k33.M w base ok x cs) : cs = [.int .i64 x.f0,.int .i64 x.f1,.int .i64 x.f2,.int .i64 x.f3,.int .i64 x.f4,.bool x.f5,.bool x.f6,.int .u32 x.f7,.int .i64 x.f8,.int .i64 x.f9,.int .i64 x.f10]:=by
 obtain ⟨_,_,rfl,rfl,⟨_,_,rfl,rfl,⟨_,_,rfl,rfl,⟨_,_,rfl,rfl,⟨_,_,rfl,rfl,⟨_,_,rfl,rfl,⟨_,_,rfl,rfl,⟨_,_,rfl,rfl,⟨_,_,rfl,rfl,⟨_,_,rfl,rfl,rfl⟩⟩⟩⟩⟩⟩⟩⟩⟩⟩:=h
 exact rfl
theorem h_t (w : World) (base : Nat) (ok : Nat → Prop) (x : S33)  : k33.M w base ok x [.int .i64 x.f0,.int .i64 x.f1,.int .i64 x.f2,.int .i64 x.f3,.int .i64 x.f4,.bool x.f5,.bool x.f6,.int .u32 x.f7,.int .i64 x.f8,.int .i64 x.f9,.int .i64 x.f10]:=⟨[.int .i64 x.f0],[.int .i64 x.f1,.int .i64 x.f2,.int .i64 x.f3,.int .i64 x.f4,.bool x.f5,.bool x.f6,.int .u32 x.f7,.int .i64 x.f8,.int .i64 x.f9,.int .i64 x.f10],rfl,rfl,⟨[.int .i64 x.f1],[.int .i64 x.f2,.int .i64 x.f3,.int .i64 x.f4,.bool x.f5,.bool x.f6,.int .u32 x.f7,.int .i64 x.f8,.int .i64 x.f9,.int .i64 x.f10],rfl,rfl,⟨[.int .i64 x.f2],[.int .i64 x.f3,.int .i64 x.f4,.bool x.f5,.bool x.f6,.int .u32 x.f7,.int .i64 x.f8,.int .i64 x.f9,.int .i64 x.f10],rfl,rfl,⟨[.int .i64 x.f3],[.int .i64 x.f4,.bool x.f5,.bool x.f6,.int .u32 x.f7,.int .i64 x.f8,.int .i64 x.f9,.int .i64 x.f10],rfl,rfl,⟨[.int .i64 x.f4],[.bool x.f5,.bool x.f6,.int .u32 x.f7,.int .i64 x.f8,.int .i64 x.f9,.int .i64 x.f10],rfl,rfl,⟨[.bool x.f5],[.bool x.f6,.int .u32 x.f7,.int .i64 x.f8,.int .i64 x.f9,.int .i64 x.f10],rfl,rfl,⟨[.bool x.f6],[.int .u32 x.f7,.int .i64 x.f8,.int .i64 x.f9,.int .i64 x.f10],rfl,rfl,⟨[.int .u32 x.f7],[.int .i64 x.f8,.int .i64 x.f9,.int .i64 x.f10],rfl,rfl,⟨[.int .i64 x.f8],[.int .i64 x.f9,.int .i64 x.f10],rfl,rfl,⟨[.int .i64 x.f9],[.int .i64 x.f10],rfl,rfl,rfl⟩⟩⟩⟩⟩⟩⟩⟩⟩⟩
def a_a (xs : List S33) (i : Int) : S33:=xs.getD i.toNat z33
theorem c_R {w : World} {A : Option Addr} {n : Nat} {xs : List S33} (h : Kd.C k33 w A n xs) (i : Int) (h0 : 0 ≤ i) (h1 : i < n) : ∃ ad , A = some ad ∧ w.cell? (ad.add (i.toNat * 11)) = some (.int .i64 (a_a xs i).f0) ∧ w.cell? ⟨(ad.add (i.toNat * 11)).block,(ad.add (i.toNat * 11)).off + 1,none⟩ = some (.int .i64 (a_a xs i).f1) ∧ w.cell? ⟨(ad.add (i.toNat * 11)).block,(ad.add (i.toNat * 11)).off + 2,none⟩ = some (.int .i64 (a_a xs i).f2) ∧ w.cell? ⟨(ad.add (i.toNat * 11)).block,(ad.add (i.toNat * 11)).off + 3,none⟩ = some (.int .i64 (a_a xs i).f3) ∧ w.cell? ⟨(ad.add (i.toNat * 11)).block,(ad.add (i.toNat * 11)).off + 4,none⟩ = some (.int .i64 (a_a xs i).f4) ∧ w.cell? ⟨(ad.add (i.toNat * 11)).block,(ad.add (i.toNat * 11)).off + 5,none⟩ = some (.bool (a_a xs i).f5) ∧ w.cell? ⟨(ad.add (i.toNat * 11)).block,(ad.add (i.toNat * 11)).off + 6,none⟩ = some (.bool (a_a xs i).f6) ∧ w.cell? ⟨(ad.add (i.toNat * 11)).block,(ad.add (i.toNat * 11)).off + 7,none⟩ = some (.int .u32 (a_a xs i).f7) ∧ w.cell? ⟨(ad.add (i.toNat * 11)).block,(ad.add (i.toNat * 11)).off + 8,none⟩ = some (.int .i64 (a_a xs i).f8) ∧ w.cell? ⟨(ad.add (i.toNat * 11)).block,(ad.add (i.toNat * 11)).off + 9,none⟩ = some (.int .i64 (a_a xs i).f9) ∧ w.cell? ⟨(ad.add (i.toNat * 11)).block,(ad.add (i.toNat * 11)).off + 10,none⟩ = some (.int .i64 (a_a xs i).f10):=by
 obtain ⟨ad,c,e,_,hK,hc0⟩:=Kd.j_1 h z33 i h0 h1
 have hc : ∀ j u,c[j]? = some u → w.cell? (ad.add (i.toNat * 11 + j)) = some u:=hc0
 obtain rfl:=m_E hK
 exact ⟨ad,e,hc 0 _ rfl,by rw [← c_M _ _ 1 (by omega)];exact hc 1 _ rfl,by rw [← c_M _ _ 2 (by omega)];exact hc 2 _ rfl,by rw [← c_M _ _ 3 (by omega)];exact hc 3 _ rfl,by rw [← c_M _ _ 4 (by omega)];exact hc 4 _ rfl,by rw [← c_M _ _ 5 (by omega)];exact hc 5 _ rfl,by rw [← c_M _ _ 6 (by omega)];exact hc 6 _ rfl,by rw [← c_M _ _ 7 (by omega)];exact hc 7 _ rfl,by rw [← c_M _ _ 8 (by omega)];exact hc 8 _ rfl,by rw [← c_M _ _ 9 (by omega)];exact hc 9 _ rfl,by rw [← c_M _ _ 10 (by omega)];exact hc 10 _ rfl⟩
structure S24 where
 f0 : Int
 f1 : (List S33)
def z24 : S24:=⟨(0 : Int),([] : List S33)⟩
def k24 : Kd S24:=Kd.iso (Kd.pair (Kd.int .i64) (Kd.slice 33 k33)) (fun x : S24 => (x.f0,x.f1))
theorem f_6 {w : World} {x : S24} {cs : List Value} (h : k24.K w x cs) : ∃ A1 c1,cs = [.int .i64 x.f0,.slice A1 x.f1.length c1] ∧ x.f1.length ≤ c1 ∧ k33.C w A1 x.f1.length x.f1:=by
 obtain ⟨_,_,rfl,rfl,⟨A1,c1,rfl,l1,g1⟩⟩:=h
 exact ⟨A1,c1,rfl,l1,g1⟩
theorem r_K (w : World) (x : S24) {A1 : Option Addr} {c1 : Nat} (l1 : x.f1.length ≤ c1) (g1 : k33.C w A1 x.f1.length x.f1) : k24.K w x [.int .i64 x.f0,.slice A1 x.f1.length c1]:=⟨[.int .i64 x.f0],[.slice A1 x.f1.length c1],rfl,rfl,⟨A1,c1,rfl,l1,g1⟩⟩
theorem l_T {W : World} {ok : Nat → Prop} {x : S24} {cs : List Value} (h : Kd.FK k24 W ok x cs) : ∃ A1 c1,cs = [.int .i64 x.f0,.slice A1 x.f1.length c1] ∧ x.f1.length ≤ c1 ∧ Kd.F k33 W ok A1 x.f1.length x.f1:=by
 obtain ⟨A1,c1,rfl,l1,_⟩:=f_6 (Kd.f_W h)
 exact ⟨A1,c1,rfl,l1,(fun W' hW => by obtain ⟨A1_,c1_,he,l1_,g1_⟩:=f_6 (h W' hW);injection (Option.some.inj (show some (Value.slice A1 x.f1.length c1) = some (Value.slice A1_ x.f1.length c1_) from congrArg (fun l => l[1]?) he)) with ha_ _ _;rw [ha_];exact g1_)⟩
theorem l_S (W : World) (ok : Nat → Prop) (x : S24) {A1 : Option Addr} {c1 : Nat} (l1 : x.f1.length ≤ c1) (g1 : Kd.F k33 W ok A1 x.f1.length x.f1) : Kd.FK k24 W ok x [.int .i64 x.f0,.slice A1 x.f1.length c1]:=fun W2 hW => r_K W2 x l1 (g1 W2 hW)
def a_r (xs : List S24) (i : Int) : S24:=xs.getD i.toNat z24
theorem e_P {w : World} {A : Option Addr} {n : Nat} {xs : List S24} (h : Kd.C k24 w A n xs) (i : Int) (h0 : 0 ≤ i) (h1 : i < n) : ∃ ad A1 c1,A = some ad ∧ w.cell? (ad.add (i.toNat * 2)) = some (.int .i64 (a_r xs i).f0) ∧ w.cell? ⟨(ad.add (i.toNat * 2)).block,(ad.add (i.toNat * 2)).off + 1,none⟩ = some (.slice A1 (a_r xs i).f1.length c1) ∧ (a_r xs i).f1.length ≤ c1 ∧ k33.C w A1 (a_r xs i).f1.length (a_r xs i).f1:=by
 obtain ⟨ad,c,e,_,hK,hc0⟩:=Kd.j_1 h z24 i h0 h1
 have hc : ∀ j u,c[j]? = some u → w.cell? (ad.add (i.toNat * 2 + j)) = some u:=hc0
 obtain ⟨A1,c1,rfl,l1,g1⟩:=f_6 hK
 exact ⟨ad,A1,c1,e,hc 0 _ rfl,by rw [← c_M _ _ 1 (by omega)];exact hc 1 _ rfl,l1,g1⟩
structure S49 where
 f0 : Int
 f1 : Int
def z49 : S49:=⟨(0 : Int),(0 : Int)⟩
def k49 : Kd S49:=Kd.iso (Kd.pair (Kd.int .i64) (Kd.int .i64)) (fun x : S49 => (x.f0,x.f1))
theorem m_F {w : World} {x : S49} {cs : List Value} (h : k49.K w x cs) : cs = [.int .i64 x.f0,.int .i64 x.f1]:=by
 obtain ⟨_,_,rfl,rfl,rfl⟩:=h
 exact rfl
theorem q_U (w : World) (base : Nat) (ok : Nat → Prop) (x : S49)  : k49.M w base ok x [.int .i64 x.f0,.int .i64 x.f1]:=⟨[.int .i64 x.f0],[.int .i64 x.f1],rfl,rfl,rfl⟩
def c_1 (xs : List S49) (i : Int) : S49:=xs.getD i.toNat z49
theorem r_o {w : World} {A : Option Addr} {n : Nat} {xs : List S49} (h : Kd.C k49 w A n xs) (i : Int) (h0 : 0 ≤ i) (h1 : i < n) : ∃ ad , A = some ad ∧ w.cell? (ad.add (i.toNat * 2)) = some (.int .i64 (c_1 xs i).f0) ∧ w.cell? ⟨(ad.add (i.toNat * 2)).block,(ad.add (i.toNat * 2)).off + 1,none⟩ = some (.int .i64 (c_1 xs i).f1):=by
 obtain ⟨ad,c,e,_,hK,hc0⟩:=Kd.j_1 h z49 i h0 h1
 have hc : ∀ j u,c[j]? = some u → w.cell? (ad.add (i.toNat * 2 + j)) = some u:=hc0
 obtain rfl:=m_F hK
 exact ⟨ad,e,hc 0 _ rfl,by rw [← c_M _ _ 1 (by omega)];exact hc 1 _ rfl⟩
def idxOf {α : Type} (p : α → Bool) (xs : List α) : Int:=match xs.findIdx? p with|some i => i|none => -1
theorem idxOf_hit {α : Type} {p : α → Bool} {xs : List α} {k : Nat} (hk : k < xs.length) (h : p xs[k] = true) (hb : ∀ j (hj : j < k),p (xs[j]'(by omega)) = false) : idxOf p xs = k:=by
 unfold idxOf
 have : xs.findIdx? p = some k:=by
  rw [List.findIdx?_eq_some_iff_getElem]
  exact ⟨hk,h,fun j hj => by simp [hb j hj]⟩
 rw [this]
theorem idxOf_miss {α : Type} {p : α → Bool} {xs : List α} (hb : ∀ j (hj : j < xs.length),p xs[j] = false) : idxOf p xs = -1:=by
 unfold idxOf
 have : xs.findIdx? p = none:=by
  rw [List.findIdx?_eq_none_iff]
  intro x hx
  obtain ⟨j,hj,rfl⟩:=List.getElem_of_mem hx
  exact hb j hj
 rw [this]
def d_1 (w : World) : Prop:=TabAt 0 Lib.deBruijn32tab w
theorem d_1.below {w W : World} (h : d_1 w) (hb : Below w.heap.size w W) : d_1 W:=fun j hj => (hb.cell (p:=⟨0,j,none⟩) (World.block_lt_of_cell? w _ (h j hj))).trans (h j hj)
def e_Q (m : Nat) : List Nat:=(List.range 8).filter fun i => m.testBit i
theorem j_8 : ∀ m,m < 256 → m ≠ 0 → e_Q m = Lib.ctz 32 m :: e_Q (m &&& (m - 1)):=by decide +kernel
theorem k_y (m : Nat) : (e_Q m).length ≤ 8:=by unfold e_Q;exact Nat.le_trans (List.length_filter_le _ _) (by simp)
theorem j_9 : e_Q 0 = []:=by decide
end Go.Proofs.YtgglkfilkagblaaDoor.Q
end
section
namespace Go.Proofs.YtgglkfilkagblaaDoor.Q
open Go.RowKit Go.Proofs.YtgglkfilkagblaaDoorW.PrintWords Go.Proofs.YtgglkfilkagblaaDoorW.PrintLast Go.Proofs.YtgglkfilkagblaaDoorW.PrintMore
open Go.ChangeShapes Go.WideShapes Go.ChangeAt
set_option linter.unusedVariables false
set_option linter.unusedSimpArgs false
structure e_g (P : Program) (t : TypeId) {α : Type} (d : Kd α) (wf : α → Prop) : Prop where
 cells : P.cellsOf t = d.sz
 open_ : ∀ {H : Type} {enc : TypeId × Value → H} {w : World} {base : Nat} {spare : Nat → Bool} {held : Bool} {fuel : Nat} {cs : List Value} {x : DataW H × List MemPlace},
  DataW.trod enc P w base spare held fuel t cs = some x → ∃ v,d.K w v cs ∧ wf v
theorem e_g.int {P : Program} {t : TypeId} {k : IntKind} (ht : P.underlying t = some (.int k)) (hc : P.cellsOf t = 1) : e_g P t (Kd.int k) (fun n => (Lit.int k n).wf = true) :=
 ⟨hc,fun {H enc w base spare held fuel cs x} h => by
  cases fuel with
  | zero => simp [DataW.trod] at h
  | succ n =>
   unfold DataW.trod at h
   rw [ht] at h
   split at h <;> simp_all
   exact ⟨_,rfl,h.1.2⟩⟩
theorem e_g.bool {P : Program} {t : TypeId} (ht : P.underlying t = some .bool) (hc : P.cellsOf t = 1) : e_g P t Kd.bool (fun _ => True) :=
 ⟨hc,fun {H enc w base spare held fuel cs x} h => by
  cases fuel with
  | zero => simp [DataW.trod] at h
  | succ n =>
   unfold DataW.trod at h
   rw [ht] at h
   split at h
   all_goals first|exact ⟨_,rfl,trivial⟩|simp_all⟩
theorem k_e {α : Type} [Inhabited α] (m : Nat) (p : Nat → α → Prop) (h : ∀ i,i < m → ∃ v,p i v) : ∃ f : Nat → α, ∀ i,i < m → p i (f i):=by
 classical
 exact ⟨fun i => if hi : ∃ v,p i v then hi.choose else default,fun i hi => by
  have hx:=h i hi
  simp only [hx,dif_pos]
  exact hx.choose_spec⟩
theorem e_g.slice {P : Program} {t e : TypeId} {α : Type} {d : Kd α} {wf : α → Prop} [Inhabited α] (ht : P.underlying t = some (.slice e)) (hc : P.cellsOf t = 1) (he : e_g P e d wf) :
 e_g P t (Kd.slice e d) (fun l => l.length ≤ maxLen ∧ ∀ x ∈ l,wf x) :=
 ⟨hc,fun {H enc w base spare held fuel cs x} h => by
  rcases Go.Deep.open_slice ht h with ⟨rfl,_⟩ | ⟨a,len,cap,m,n,D,Pl,rfl,hb,hl,hm,hmm,_,hx⟩
  ·exact ⟨[],⟨none,0,rfl,Nat.le_refl _,⟨rfl,by simp,fun h => absurd h (Nat.lt_irrefl 0)⟩⟩,by simp,by simp⟩
  ·have hlm : len ≤ m:=by rw [hmm];split <;> omega
   obtain ⟨f,hf⟩:=k_e (α:=α) m (fun i v => ∃ cs',w.cells? base (a.add (i * P.cellsOf e)) (P.cellsOf e) = some cs' ∧ d.K w v cs' ∧ wf v) (fun i hi => by
    obtain ⟨cs',h1,h2⟩:=hx i hi
    obtain ⟨v,h3,h4⟩:=he.open_ h2
    exact ⟨v,cs',h1,h3,h4⟩)
   have hml : maxLen = 9223372036854775807:=rfl
   refine ⟨(List.range len).map f,⟨some a,cap,by simp,by simpa using hl,⟨by simp,by simp;omega,fun _ => ⟨a,rfl,fun j p hj => ?_⟩⟩⟩,by simp;omega,fun v hv => ?_⟩
   ·rw [List.getElem?_map] at hj
    obtain ⟨i,hi,rfl⟩:=Option.map_eq_some_iff.1 hj
    have hij : j < len:=by
     rcases Nat.lt_or_ge j len with h|h
     ·exact h
     ·rw [List.getElem?_eq_none (by simpa using h)] at hi;cases hi
    rw [List.getElem?_range hij] at hi
    injection hi with hi
    subst hi
    obtain ⟨cs',h1,h2,h3⟩:=hf j (by omega)
    obtain ⟨_,h4,h5⟩:=World.cells?_some h1
    rw [he.cells] at h4 h5 h1
    refine ⟨cs',h4,h2,fun i u hu => ?_⟩
    have hil : i < d.sz:=by
     rw [← h4]
     exact (List.getElem?_eq_some_iff.1 hu).1
    rw [show j * d.sz + i = j * d.sz + i from rfl, ← add_add,h5 i hil]
    exact hu
   ·obtain ⟨j,hj,rfl⟩:=List.mem_map.1 hv
    obtain ⟨_,_,_,h3⟩:=hf j (by have:=List.mem_range.1 hj;omega)
    exact h3⟩
theorem b_N {P : Program} {H : Type} {enc : TypeId × Value → H} {w : World} {base : Nat} {spare : Nat → Bool} {held : Bool} {fuel : Nat} {t : TypeId} {cs : List Value} {x : DataW H × List MemPlace} {fs : Array Field}
 (ht : P.underlying t = some (.struct fs)) (h : DataW.trod enc P w base spare held fuel t cs = some x) (i : Nat) {f : Field} (hf : fs[i]? = some f) {α : Type} {d : Kd α} {wf : α → Prop} (ho : e_g P f.type d wf) :
 ∃ v,d.K w v ((cs.drop f.offset).take d.sz) ∧ wf v:=by
 obtain ⟨xs,n,_,_,_,hl,hx⟩:=DataW.trod_struct ht h
 have h1:=hx i f hf
 have hi : i < xs.length:=by rw [hl];exact (Array.getElem?_eq_some_iff.1 hf).1
 rw [List.getElem?_eq_getElem hi,ho.cells] at h1
 exact ho.open_ h1
theorem f_2 {P : Program} {H : Type} {enc : TypeId × Value → H} {w : World} {base : Nat} {spare : Nat → Bool} {held : Bool} {fuel : Nat} {t : TypeId} {cs : List Value} {x : DataW H × List MemPlace} {fs : Array Field}
 (ht : P.underlying t = some (.struct fs)) (h : DataW.trod enc P w base spare held fuel t cs = some x) : cs.length = P.cellsOf t:=by
 obtain ⟨xs,n,_,_,hl,_⟩:=DataW.trod_struct ht h
 exact hl
theorem b_l {α : Type} {cs : List α} {n : Nat} (h : cs.length = n + 1) : ∃ a l,cs = a :: l ∧ l.length = n:=by
 cases cs with
 | nil => simp at h
 | cons a l => exact ⟨a,l,rfl,by simpa using h⟩
theorem toList_eq {α : Type} {cs : Array α} {l : List α} (h : cs.toList = l) : cs = l.toArray:=by rw [← h]
theorem own : ownKnob Tryd.prog.godebug = none:=by kernel_rfl
theorem laidOut : laidOutB Tryd.prog = true:=by kernel_rfl
instance : Inhabited S33:=⟨z33⟩
def wf33 (x : S33) : Prop:=(fun n => (Lit.int .i64 n).wf = true) x.f0 ∧ (fun n => (Lit.int .i64 n).wf = true) x.f1 ∧ (fun n => (Lit.int .i64 n).wf = true) x.f2 ∧ (fun n => (Lit.int .i64 n).wf = true) x.f3 ∧ (fun n => (Lit.int .i64 n).wf = true) x.f4 ∧ (fun _ => True) x.f5 ∧ (fun _ => True) x.f6 ∧ (fun n => (Lit.int .u32 n).wf = true) x.f7 ∧ (fun n => (Lit.int .i64 n).wf = true) x.f8 ∧ (fun n => (Lit.int .i64 n).wf = true) x.f9 ∧ (fun n => (Lit.int .i64 n).wf = true) x.f10
theorem op33 : e_g Tryd.prog 33 k33 wf33 :=
 ⟨by kernel_rfl,fun {H enc w base spare held fuel cs x} h => by
  have hl : cs.length = 11:=(f_2 Tryd.underlying33 h).trans (by kernel_rfl)
  obtain ⟨v0,h0,w0⟩:=b_N Tryd.underlying33 h 0 rfl (e_g.int Tryd.underlying3 (by kernel_rfl))
  obtain ⟨v1,h1,w1⟩:=b_N Tryd.underlying33 h 1 rfl (e_g.int Tryd.underlying3 (by kernel_rfl))
  obtain ⟨v2,h2,w2⟩:=b_N Tryd.underlying33 h 2 rfl (e_g.int Tryd.underlying3 (by kernel_rfl))
  obtain ⟨v3,h3,w3⟩:=b_N Tryd.underlying33 h 3 rfl (e_g.int Tryd.underlying3 (by kernel_rfl))
  obtain ⟨v4,h4,w4⟩:=b_N Tryd.underlying33 h 4 rfl (e_g.int Tryd.underlying3 (by kernel_rfl))
  obtain ⟨v5,h5,w5⟩:=b_N Tryd.underlying33 h 5 rfl (e_g.bool Tryd.underlying4 (by kernel_rfl))
  obtain ⟨v6,h6,w6⟩:=b_N Tryd.underlying33 h 6 rfl (e_g.bool Tryd.underlying4 (by kernel_rfl))
  obtain ⟨v7,h7,w7⟩:=b_N Tryd.underlying33 h 7 rfl (e_g.int Tryd.underlying31 (by kernel_rfl))
  obtain ⟨v8,h8,w8⟩:=b_N Tryd.underlying33 h 8 rfl (e_g.int Tryd.underlying3 (by kernel_rfl))
  obtain ⟨v9,h9,w9⟩:=b_N Tryd.underlying33 h 9 rfl (e_g.int Tryd.underlying3 (by kernel_rfl))
  obtain ⟨v10,h10,w10⟩:=b_N Tryd.underlying33 h 10 rfl (e_g.int Tryd.underlying3 (by kernel_rfl))
  obtain ⟨c0,l0,rfl,hm0⟩:=b_l hl
  obtain ⟨c1,l1,rfl,hm1⟩:=b_l hm0
  obtain ⟨c2,l2,rfl,hm2⟩:=b_l hm1
  obtain ⟨c3,l3,rfl,hm3⟩:=b_l hm2
  obtain ⟨c4,l4,rfl,hm4⟩:=b_l hm3
  obtain ⟨c5,l5,rfl,hm5⟩:=b_l hm4
  obtain ⟨c6,l6,rfl,hm6⟩:=b_l hm5
  obtain ⟨c7,l7,rfl,hm7⟩:=b_l hm6
  obtain ⟨c8,l8,rfl,hm8⟩:=b_l hm7
  obtain ⟨c9,l9,rfl,hm9⟩:=b_l hm8
  obtain ⟨c10,l10,rfl,hm10⟩:=b_l hm9
  obtain rfl:=List.eq_nil_of_length_eq_zero hm10
  exact ⟨⟨v0,v1,v2,v3,v4,v5,v6,v7,v8,v9,v10⟩,⟨[c0],[c1,c2,c3,c4,c5,c6,c7,c8,c9,c10],rfl,h0,⟨[c1],[c2,c3,c4,c5,c6,c7,c8,c9,c10],rfl,h1,⟨[c2],[c3,c4,c5,c6,c7,c8,c9,c10],rfl,h2,⟨[c3],[c4,c5,c6,c7,c8,c9,c10],rfl,h3,⟨[c4],[c5,c6,c7,c8,c9,c10],rfl,h4,⟨[c5],[c6,c7,c8,c9,c10],rfl,h5,⟨[c6],[c7,c8,c9,c10],rfl,h6,⟨[c7],[c8,c9,c10],rfl,h7,⟨[c8],[c9,c10],rfl,h8,⟨[c9],[c10],rfl,h9,h10⟩⟩⟩⟩⟩⟩⟩⟩⟩⟩,⟨w0,w1,w2,w3,w4,w5,w6,w7,w8,w9,w10⟩⟩⟩
instance : Inhabited S24:=⟨z24⟩
def wf24 (x : S24) : Prop:=(fun n => (Lit.int .i64 n).wf = true) x.f0 ∧ (fun l => l.length ≤ maxLen ∧ ∀ x ∈ l,wf33 x) x.f1
theorem op24 : e_g Tryd.prog 24 k24 wf24 :=
 ⟨by kernel_rfl,fun {H enc w base spare held fuel cs x} h => by
  have hl : cs.length = 2:=(f_2 Tryd.underlying24 h).trans (by kernel_rfl)
  obtain ⟨v0,h0,w0⟩:=b_N Tryd.underlying24 h 0 rfl (e_g.int Tryd.underlying2 (by kernel_rfl))
  obtain ⟨v1,h1,w1⟩:=b_N Tryd.underlying24 h 1 rfl (e_g.slice Tryd.underlying22 (by kernel_rfl) op33)
  obtain ⟨c0,l0,rfl,hm0⟩:=b_l hl
  obtain ⟨c1,l1,rfl,hm1⟩:=b_l hm0
  obtain rfl:=List.eq_nil_of_length_eq_zero hm1
  exact ⟨⟨v0,v1⟩,⟨[c0],[c1],rfl,h0,h1⟩,⟨w0,w1⟩⟩⟩
end Go.Proofs.YtgglkfilkagblaaDoor.Q
end
section
namespace Go.Proofs.YtgglkfilkagblaaDoor.Q
open Go.RowKit Go.Proofs.YtgglkfilkagblaaDoorW.PrintWords Go.Proofs.YtgglkfilkagblaaDoorW.PrintLast Go.Proofs.YtgglkfilkagblaaDoorW.PrintMore
set_option linter.unusedVariables false
set_option linter.unusedSimpArgs false
theorem s_T (d : Nat) (w : World) (x0 y0 : Int) (x1 y1 : Int) :
 (Op.equalIn (d + 2) 49 (.agg #[.int .i64 x0,.int .i64 x1]) (.agg #[.int .i64 y0,.int .i64 y1])).run Tryd.prog w = .ok (x0 == y0 && (x1 == y1)) w:=by
 refine r_r Tryd.underlying49 (by kernel_rfl) ?_
 refine m_g (by rfl) (by go_simp;rfl) (by go_simp;rfl) (by go_simp) ?_
 exact m_h (by rfl) (by go_simp;rfl) (by go_simp;rfl) (by go_simp)
end Go.Proofs.YtgglkfilkagblaaDoor.Q
end
section
namespace Go.Proofs.YtgglkfilkagblaaDoor.Q
open Go.RowKit Go.Proofs.YtgglkfilkagblaaDoorW.PrintWords Go.Proofs.YtgglkfilkagblaaDoorW.PrintLast Go.Proofs.YtgglkfilkagblaaDoorW.PrintMore
set_option linter.unusedVariables false
set_option linter.unusedSimpArgs false
theorem f_4 {α : Type} (p : α → Bool) (xs : List α) (k : Nat) (h : k < xs.length) : (xs.take (k + 1)).countP p = (xs.take k).countP p + (if p xs[k] then 1 else 0):=by
 rw [List.take_succ_eq_append_getElem h,List.countP_append,List.countP_singleton]
set_option maxHeartbeats 2000000 in
theorem e_z.any (g : Nat) (lb : Array Value) (eg : ∀ args w,(callFunc g args).run Tryd.prog w = .ok (.enter g args) w) (p : S33 → Bool) (A : Option Addr) (c : Nat) (xs : List S33) (w : World)
 (hr : Kd.C k33 w A xs.length xs) (hlen : xs.length ≤ 1099511627776)
 (hp : ∀ W,Below w.heap.size w W → ∀ x ∈ xs,Calls Tryd.prog g (#[.agg #[.int .i64 x.f0,.int .i64 x.f1,.int .i64 x.f2,.int .i64 x.f3,.int .i64 x.f4,.bool x.f5,.bool x.f6,.int .u32 x.f7,.int .i64 x.f8,.int .i64 x.f9,.int .i64 x.f10]] ++ lb) W fun e W' => e = .returned (.bool (p x)) ∧ Below W.heap.size W W') :
 Calls Tryd.prog 23 #[.slice A xs.length c,.func (.func g) #[] lb] w fun e w' => e = .returned (.int .i64 ((xs.countP p : Nat) : Int)) ∧ Below w.heap.size w w':=by
 have HP:=a_f.mk hp
 have HR:=a_f.mk hr
 clear hp hr
 go_enter Tryd.func23,Tryd.ntmps23
 go_wp2
 go_loopg [5,10] xs.length (fun gg s5 s10 wr => ∃ kk cc : Nat,s5 = .int .i64 cc ∧ s10 = .int .i64 kk ∧ cc ≤ kk ∧ kk ≤ xs.length ∧ xs.length - kk ≤ gg ∧ a_f (cc = (xs.take kk).countP p) ∧ a_f (Below w.heap.size w wr))
 case atStart => exact ⟨0,0,rfl,rfl,Nat.le_refl _,Nat.zero_le _,by omega,⟨by simp⟩,⟨Below.refl _ _⟩⟩
 case round =>
  obtain ⟨kk,cc,rfl,rfl,hck,hkk,hg,HCC,HB⟩:=hrel
  by_cases hlt : kk < xs.length
  rotate_left
  ·have hltz : ¬ (kk : Int) < (xs.length : Int):=by omega
   have : kk = xs.length:=by omega
   subst this
   go_wp2
   go_ret
   refine ⟨?_,HB.out⟩
   rw [HCC.out,List.take_length];rfl
  have hltz : (kk : Int) < (xs.length : Int):=by omega
  obtain ⟨ad,rfl,e0,e1,e2,e3,e4,e5,e6,e7,e8,e9,e10⟩:=c_R (Kd.b_i HR.out HB.out) (kk : Int) (by omega) (by omega)
  have hx:=List.getElem_mem hlt
  have hrd : a_a xs (kk : Int) = xs[kk]:=by unfold a_a;simp [hlt]
  rw [hrd] at e0 e1 e2 e3 e4 e5 e6 e7 e8 e9 e10
  simp only [Int.toNat_natCast] at e0 e1 e2 e3 e4 e5 e6 e7 e8 e9 e10
  have hsucc:=a_f.mk (f_4 p xs kk hlt)
  have HP2:=a_f.mk (fun W hW => HP.out W hW _ hx)
  generalize hy : xs[kk] = y at e0 e1 e2 e3 e4 e5 e6 e7 e8 e9 e10 HP2 hsucc hx
  clear hy hx hrd
  cases hq : p y with
  | true =>
   rw [hq] at HP2 hsucc
   go_wp2_with (first
    | ((with_reducible refine a_J (N:=7) rfl ?_);refine a_A ?hg (N:=7) ?hd (cs:=#[.int .i64 0,.int .i64 0,.int .i64 0,.int .i64 0,.int .i64 0,.bool false,.bool false,.int .u32 0,.int .i64 0,.int .i64 0,.int .i64 0]) (t:=33) ?hr ?_;(case hd => rfl);(case hg => rfl);(case hr => first|(go_simp;done)|(go_simp;rfl));intro gb hgb wb hbox hb;have m0_:=a_f.mk (a_q HB.out hb);have m2_:=a_f.mk ((by rw [hgb];exact HB.out.size : w.heap.size ≤ gb));have BK:=a_f.mk hbox;clear HB hb hbox hgb;have HB:=m0_;have GE:=m2_;clear m0_ m2_;have hz0 : wb.cell? ⟨gb,0,none⟩ = some (.int .i64 0):=(a_b BK.out 0).trans rfl;have hf0:=a_c BK.out 0;have hz1 : wb.cell? ⟨gb,1,none⟩ = some (.int .i64 0):=(a_b BK.out 1).trans rfl;have hf1:=a_c BK.out 1;have hz2 : wb.cell? ⟨gb,2,none⟩ = some (.int .i64 0):=(a_b BK.out 2).trans rfl;have hf2:=a_c BK.out 2;have hz3 : wb.cell? ⟨gb,3,none⟩ = some (.int .i64 0):=(a_b BK.out 3).trans rfl;have hf3:=a_c BK.out 3;have hz4 : wb.cell? ⟨gb,4,none⟩ = some (.int .i64 0):=(a_b BK.out 4).trans rfl;have hf4:=a_c BK.out 4;have hz5 : wb.cell? ⟨gb,5,none⟩ = some (.bool false):=(a_b BK.out 5).trans rfl;have hf5:=a_c BK.out 5;have hz6 : wb.cell? ⟨gb,6,none⟩ = some (.bool false):=(a_b BK.out 6).trans rfl;have hf6:=a_c BK.out 6;have hz7 : wb.cell? ⟨gb,7,none⟩ = some (.int .u32 0):=(a_b BK.out 7).trans rfl;have hf7:=a_c BK.out 7;have hz8 : wb.cell? ⟨gb,8,none⟩ = some (.int .i64 0):=(a_b BK.out 8).trans rfl;have hf8:=a_c BK.out 8;have hz9 : wb.cell? ⟨gb,9,none⟩ = some (.int .i64 0):=(a_b BK.out 9).trans rfl;have hf9:=a_c BK.out 9;have hz10 : wb.cell? ⟨gb,10,none⟩ = some (.int .i64 0):=(a_b BK.out 10).trans rfl;have hf10:=a_c BK.out 10)
    | (go_at_fn g;refine (HP2.out _ ?hW).mono ?_;(case hW => exact (by repeat (with_reducible first|exact HB.out|refine a_i ?_ GE.out)));rintro e w' ⟨rfl,hb'⟩;have m0_:=a_f.mk (Below.trans (by repeat (with_reducible first|exact HB.out|refine a_i ?_ GE.out)) (hb'.mono (a_o (by repeat (with_reducible first|exact HB.out|refine a_i ?_ GE.out)))));clear hz0 hf0 hz1 hf1 hz2 hf2 hz3 hf3 hz4 hf4 hz5 hf5 hz6 hf6 hz7 hf7 hz8 hf8 hz9 hf9 hz10 hf10 hb' HB;have HB:=m0_;clear m0_))
   go_roundg (xs.length - (kk + 1))
   case measure => omega
   case rel => exact ⟨kk + 1,cc + 1,by go_num,by go_num,by omega,by omega,by omega,⟨by rw [hsucc.out, ← HCC.out];rfl⟩,⟨HB.out⟩⟩
  | false =>
   rw [hq] at HP2 hsucc
   go_wp2_with (first
    | ((with_reducible refine a_J (N:=7) rfl ?_);refine a_A ?hg (N:=7) ?hd (cs:=#[.int .i64 0,.int .i64 0,.int .i64 0,.int .i64 0,.int .i64 0,.bool false,.bool false,.int .u32 0,.int .i64 0,.int .i64 0,.int .i64 0]) (t:=33) ?hr ?_;(case hd => rfl);(case hg => rfl);(case hr => first|(go_simp;done)|(go_simp;rfl));intro gb hgb wb hbox hb;have m0_:=a_f.mk (a_q HB.out hb);have m2_:=a_f.mk ((by rw [hgb];exact HB.out.size : w.heap.size ≤ gb));have BK:=a_f.mk hbox;clear HB hb hbox hgb;have HB:=m0_;have GE:=m2_;clear m0_ m2_;have hz0 : wb.cell? ⟨gb,0,none⟩ = some (.int .i64 0):=(a_b BK.out 0).trans rfl;have hf0:=a_c BK.out 0;have hz1 : wb.cell? ⟨gb,1,none⟩ = some (.int .i64 0):=(a_b BK.out 1).trans rfl;have hf1:=a_c BK.out 1;have hz2 : wb.cell? ⟨gb,2,none⟩ = some (.int .i64 0):=(a_b BK.out 2).trans rfl;have hf2:=a_c BK.out 2;have hz3 : wb.cell? ⟨gb,3,none⟩ = some (.int .i64 0):=(a_b BK.out 3).trans rfl;have hf3:=a_c BK.out 3;have hz4 : wb.cell? ⟨gb,4,none⟩ = some (.int .i64 0):=(a_b BK.out 4).trans rfl;have hf4:=a_c BK.out 4;have hz5 : wb.cell? ⟨gb,5,none⟩ = some (.bool false):=(a_b BK.out 5).trans rfl;have hf5:=a_c BK.out 5;have hz6 : wb.cell? ⟨gb,6,none⟩ = some (.bool false):=(a_b BK.out 6).trans rfl;have hf6:=a_c BK.out 6;have hz7 : wb.cell? ⟨gb,7,none⟩ = some (.int .u32 0):=(a_b BK.out 7).trans rfl;have hf7:=a_c BK.out 7;have hz8 : wb.cell? ⟨gb,8,none⟩ = some (.int .i64 0):=(a_b BK.out 8).trans rfl;have hf8:=a_c BK.out 8;have hz9 : wb.cell? ⟨gb,9,none⟩ = some (.int .i64 0):=(a_b BK.out 9).trans rfl;have hf9:=a_c BK.out 9;have hz10 : wb.cell? ⟨gb,10,none⟩ = some (.int .i64 0):=(a_b BK.out 10).trans rfl;have hf10:=a_c BK.out 10)
    | (go_at_fn g;refine (HP2.out _ ?hW).mono ?_;(case hW => exact (by repeat (with_reducible first|exact HB.out|refine a_i ?_ GE.out)));rintro e w' ⟨rfl,hb'⟩;have m0_:=a_f.mk (Below.trans (by repeat (with_reducible first|exact HB.out|refine a_i ?_ GE.out)) (hb'.mono (a_o (by repeat (with_reducible first|exact HB.out|refine a_i ?_ GE.out)))));clear hz0 hf0 hz1 hf1 hz2 hf2 hz3 hf3 hz4 hf4 hz5 hf5 hz6 hf6 hz7 hf7 hz8 hf8 hz9 hf9 hz10 hf10 hb' HB;have HB:=m0_;clear m0_))
   go_roundg (xs.length - (kk + 1))
   case measure => omega
   case rel => exact ⟨kk + 1,cc,by go_num,by go_num,by omega,by omega,by omega,⟨by rw [hsucc.out, ← HCC.out];rfl⟩,⟨HB.out⟩⟩
set_option maxHeartbeats 2000000 in
theorem g_O.calls (g : Nat) (x : S33) (a0 : Int) (a1 : Int) (a2 : Int) (a3 : Int) (a4 : Int) (a5 : Bool) (a6 : Bool) (a7 : Int) (a8 : Int) (a9 : Int) (a10 : Int) (w : World) (hb : w.heap[g]? = some (.cells #[.int .i64 a0,.int .i64 a1,.int .i64 a2,.int .i64 a3,.int .i64 a4,.bool a5,.bool a6,.int .u32 a7,.int .i64 a8,.int .i64 a9,.int .i64 a10] 33 (0,0))) :
 Calls Tryd.prog 33 (#[.agg #[.int .i64 x.f0,.int .i64 x.f1,.int .i64 x.f2,.int .i64 x.f3,.int .i64 x.f4,.bool x.f5,.bool x.f6,.int .u32 x.f7,.int .i64 x.f8,.int .i64 x.f9,.int .i64 x.f10]] ++ #[.pointer (some ⟨g,0,none⟩)]) w fun e w' => e = .returned (.bool (x.f1 == a1)) ∧ Below w.heap.size w w':=by
 have hc:=(a_b hb 1).trans rfl
 have hf:=a_c hb 1
 have hlt:=a_B hb
 clear hb
 go_enter Tryd.func33,Tryd.ntmps33
 go_wp2
 go_ret
 exact ⟨rfl,(Below.refl _ _).alloc (Nat.le_refl _) _⟩
def a_X.f (l0 : List S33) (a0 : Int) (a1 : Int) (a2 : Int) (a3 : Int) (a4 : Int) (a5 : Bool) (a6 : Bool) (a7 : Int) (a8 : Int) (a9 : Int) (a10 : Int) : Option Int:=if l0.length ≤ 1099511627776 then some ((l0.countP (fun s => s.f1 == a1) : Nat) : Int) else none
theorem a_X.calls (A0 : Option Addr) (c0 : Nat) (l0 : List S33) (g : Nat) (a0 : Int) (a1 : Int) (a2 : Int) (a3 : Int) (a4 : Int) (a5 : Bool) (a6 : Bool) (a7 : Int) (a8 : Int) (a9 : Int) (a10 : Int) (r : Int) (w : World) (hr0 : Kd.C k33 w A0 l0.length l0) (hc0 : l0.length ≤ c0) (hb : w.heap[g]? = some (.cells #[.int .i64 a0,.int .i64 a1,.int .i64 a2,.int .i64 a3,.int .i64 a4,.bool a5,.bool a6,.int .u32 a7,.int .i64 a8,.int .i64 a9,.int .i64 a10] 33 (0,0))) (h : a_X.f l0 a0 a1 a2 a3 a4 a5 a6 a7 a8 a9 a10 = some r) :
 Calls Tryd.prog 23 #[.slice A0 l0.length c0,.func (.func 33) #[] #[.pointer (some ⟨g,0,none⟩)]] w fun e w' => e = .returned (.int .i64 r) ∧ Below w.heap.size w w':=by
 unfold a_X.f at h
 split at h
 case isFalse => cases h
 case isTrue hl =>
 obtain rfl:=Option.some.inj h
 exact e_z.any 33 _ (e_2 Tryd.func33 (by kernel_rfl) rfl) _ A0 c0 l0 w hr0 hl (fun W hW x _ => g_O.calls g x a0 a1 a2 a3 a4 a5 a6 a7 a8 a9 a10 W ((hW.block _ (a_B hb)).trans hb))
def g_j (x : S33) (a1 b8 b9 b10 : Int) : Bool:=x.f1 == a1 && x.f8 == b8 && x.f9 == b9 && x.f10 == b10
set_option maxHeartbeats 2000000 in
theorem i_d.calls (gs g g2 : Nat) (x : S33) (a0 : Int) (a1 : Int) (a2 : Int) (a3 : Int) (a4 : Int) (a5 : Bool) (a6 : Bool) (a7 : Int) (a8 : Int) (a9 : Int) (a10 : Int) (b0 : Int) (b1 : Int) (b2 : Int) (b3 : Int) (b4 : Int) (b5 : Bool) (b6 : Bool) (b7 : Int) (b8 : Int) (b9 : Int) (b10 : Int) (w : World) (hs : w.heap[gs]? = some (.cells #[.func (.func 33) #[] #[.pointer (some ⟨g,0,none⟩)]] 51 (0,0))) (hb : w.heap[g]? = some (.cells #[.int .i64 a0,.int .i64 a1,.int .i64 a2,.int .i64 a3,.int .i64 a4,.bool a5,.bool a6,.int .u32 a7,.int .i64 a8,.int .i64 a9,.int .i64 a10] 33 (0,0))) (hb2 : w.heap[g2]? = some (.cells #[.int .i64 b0,.int .i64 b1,.int .i64 b2,.int .i64 b3,.int .i64 b4,.bool b5,.bool b6,.int .u32 b7,.int .i64 b8,.int .i64 b9,.int .i64 b10] 33 (0,0))) :
 Calls Tryd.prog 34 (#[.agg #[.int .i64 x.f0,.int .i64 x.f1,.int .i64 x.f2,.int .i64 x.f3,.int .i64 x.f4,.bool x.f5,.bool x.f6,.int .u32 x.f7,.int .i64 x.f8,.int .i64 x.f9,.int .i64 x.f10]] ++ #[.pointer (some ⟨gs,0,none⟩),.pointer (some ⟨g2,0,none⟩)]) w fun e w' => e = .returned (.bool (g_j x a1 b8 b9 b10)) ∧ Below w.heap.size w w':=by
 have HS:=a_f.mk hs
 have HG:=a_f.mk hb
 have H2:=a_f.mk hb2
 have HB:=a_f.mk (Below.refl w.heap.size w)
 clear hs hb hb2
 have key : ∀ b1 b2 b3 b4 : Bool,(x.f1 == a1) = b1 → (x.f8 == b8) = b2 → (x.f9 == b9) = b3 → (x.f10 == b10) = b4 → Calls Tryd.prog 34 (#[.agg #[.int .i64 x.f0,.int .i64 x.f1,.int .i64 x.f2,.int .i64 x.f3,.int .i64 x.f4,.bool x.f5,.bool x.f6,.int .u32 x.f7,.int .i64 x.f8,.int .i64 x.f9,.int .i64 x.f10]] ++ #[.pointer (some ⟨gs,0,none⟩),.pointer (some ⟨g2,0,none⟩)]) w fun e w' => e = .returned (.bool (b1 && b2 && b3 && b4)) ∧ Below w.heap.size w w':=by
  intro b1 b2 b3 b4 h1 h2 h3 h4
  have H1:=a_f.mk h1
  clear h1
  cases b1 <;> cases b2 <;> cases b3 <;> cases b4
  all_goals
   go_enter Tryd.func34,Tryd.ntmps34
   go_wp2_with (first
    | ((with_reducible refine a_J (N:=3) rfl ?_);refine a_A ?hg (N:=3) ?hd (cs:=#[.int .i64 x.f0,.int .i64 x.f1,.int .i64 x.f2,.int .i64 x.f3,.int .i64 x.f4,.bool x.f5,.bool x.f6,.int .u32 x.f7,.int .i64 x.f8,.int .i64 x.f9,.int .i64 x.f10]) (t:=33) ?hr ?_;(case hd => rfl);(case hg => rfl);(case hr => first|(go_simp;done)|(go_simp;rfl));intro gb hgb wb hbox hb;have m0_:=a_f.mk (a_q HB.out hb);have m1_:=a_f.mk (a_l HS.out hb);have m2_:=a_f.mk (a_l HG.out hb);have m3_:=a_f.mk (a_l H2.out hb);have BK:=a_f.mk hbox;clear HB HS HG H2 hb hbox hgb;have HB:=m0_;have HS:=m1_;have HG:=m2_;have H2:=m3_;clear m0_ m1_ m2_ m3_;have hz0 : wb.cell? ⟨gs,0,none⟩ = some (.func (.func 33) #[] #[.pointer (some ⟨g,0,none⟩)]):=(a_b HS.out 0).trans rfl;have hx0 : wb.cell? ⟨gb,0,none⟩ = some (.int .i64 x.f0):=(a_b BK.out 0).trans rfl;have hx1 : wb.cell? ⟨gb,1,none⟩ = some (.int .i64 x.f1):=(a_b BK.out 1).trans rfl;have hx2 : wb.cell? ⟨gb,2,none⟩ = some (.int .i64 x.f2):=(a_b BK.out 2).trans rfl;have hx3 : wb.cell? ⟨gb,3,none⟩ = some (.int .i64 x.f3):=(a_b BK.out 3).trans rfl;have hx4 : wb.cell? ⟨gb,4,none⟩ = some (.int .i64 x.f4):=(a_b BK.out 4).trans rfl;have hx5 : wb.cell? ⟨gb,5,none⟩ = some (.bool x.f5):=(a_b BK.out 5).trans rfl;have hx6 : wb.cell? ⟨gb,6,none⟩ = some (.bool x.f6):=(a_b BK.out 6).trans rfl;have hx7 : wb.cell? ⟨gb,7,none⟩ = some (.int .u32 x.f7):=(a_b BK.out 7).trans rfl;have hx8 : wb.cell? ⟨gb,8,none⟩ = some (.int .i64 x.f8):=(a_b BK.out 8).trans rfl;have hx9 : wb.cell? ⟨gb,9,none⟩ = some (.int .i64 x.f9):=(a_b BK.out 9).trans rfl;have hx10 : wb.cell? ⟨gb,10,none⟩ = some (.int .i64 x.f10):=(a_b BK.out 10).trans rfl)
    | (go_at_call 33;refine (g_O.calls g x a0 a1 a2 a3 a4 a5 a6 a7 a8 a9 a10 _ HG.out).mono ?_;rintro e w' ⟨rfl,hb⟩;rw [H1.out];clear hz0 hx0 hx1 hx2 hx3 hx4 hx5 hx6 hx7 hx8 hx9 hx10;have m0_:=a_f.mk (a_q HB.out hb);have m3_:=a_f.mk (a_l H2.out hb);have m4_:=a_f.mk (a_l BK.out hb);clear HB HS HG H2 BK hb;have HB:=m0_;have H2:=m3_;have BK:=m4_;clear m0_ m3_ m4_;have hx8 : World.cell? _ ⟨gb,8,none⟩ = some (.int .i64 x.f8):=(a_b BK.out 8).trans rfl;have hx9 : World.cell? _ ⟨gb,9,none⟩ = some (.int .i64 x.f9):=(a_b BK.out 9).trans rfl;have hx10 : World.cell? _ ⟨gb,10,none⟩ = some (.int .i64 x.f10):=(a_b BK.out 10).trans rfl;have hy8 : World.cell? _ ⟨g2,8,none⟩ = some (.int .i64 b8):=(a_b H2.out 8).trans rfl;have hy9 : World.cell? _ ⟨g2,9,none⟩ = some (.int .i64 b9):=(a_b H2.out 9).trans rfl;have hy10 : World.cell? _ ⟨g2,10,none⟩ = some (.int .i64 b10):=(a_b H2.out 10).trans rfl))
   go_ret
   exact ⟨by first|rfl|simp [h2,h3,h4]|simp [*],HB.out⟩
 have:=key _ _ _ _ rfl rfl rfl rfl
 exact this
def a_V.f (l0 : List S33) (a0 : Int) (a1 : Int) (a2 : Int) (a3 : Int) (a4 : Int) (a5 : Bool) (a6 : Bool) (a7 : Int) (a8 : Int) (a9 : Int) (a10 : Int) (b0 : Int) (b1 : Int) (b2 : Int) (b3 : Int) (b4 : Int) (b5 : Bool) (b6 : Bool) (b7 : Int) (b8 : Int) (b9 : Int) (b10 : Int) : Option Int:=if l0.length ≤ 1099511627776 then some ((l0.countP (fun s => g_j s a1 b8 b9 b10) : Nat) : Int) else none
theorem a_V.calls (A0 : Option Addr) (c0 : Nat) (l0 : List S33) (gs g g2 : Nat) (a0 : Int) (a1 : Int) (a2 : Int) (a3 : Int) (a4 : Int) (a5 : Bool) (a6 : Bool) (a7 : Int) (a8 : Int) (a9 : Int) (a10 : Int) (b0 : Int) (b1 : Int) (b2 : Int) (b3 : Int) (b4 : Int) (b5 : Bool) (b6 : Bool) (b7 : Int) (b8 : Int) (b9 : Int) (b10 : Int) (r : Int) (w : World) (hr0 : Kd.C k33 w A0 l0.length l0) (hc0 : l0.length ≤ c0) (hs : w.heap[gs]? = some (.cells #[.func (.func 33) #[] #[.pointer (some ⟨g,0,none⟩)]] 51 (0,0))) (hb : w.heap[g]? = some (.cells #[.int .i64 a0,.int .i64 a1,.int .i64 a2,.int .i64 a3,.int .i64 a4,.bool a5,.bool a6,.int .u32 a7,.int .i64 a8,.int .i64 a9,.int .i64 a10] 33 (0,0))) (hb2 : w.heap[g2]? = some (.cells #[.int .i64 b0,.int .i64 b1,.int .i64 b2,.int .i64 b3,.int .i64 b4,.bool b5,.bool b6,.int .u32 b7,.int .i64 b8,.int .i64 b9,.int .i64 b10] 33 (0,0))) (h : a_V.f l0 a0 a1 a2 a3 a4 a5 a6 a7 a8 a9 a10 b0 b1 b2 b3 b4 b5 b6 b7 b8 b9 b10 = some r) :
 Calls Tryd.prog 23 #[.slice A0 l0.length c0,.func (.func 34) #[] #[.pointer (some ⟨gs,0,none⟩),.pointer (some ⟨g2,0,none⟩)]] w fun e w' => e = .returned (.int .i64 r) ∧ Below w.heap.size w w':=by
 unfold a_V.f at h
 split at h
 case isFalse => cases h
 case isTrue hl =>
 obtain rfl:=Option.some.inj h
 exact e_z.any 34 _ (e_2 Tryd.func34 (by kernel_rfl) rfl) _ A0 c0 l0 w hr0 hl (fun W hW x _ => i_d.calls gs g g2 x a0 a1 a2 a3 a4 a5 a6 a7 a8 a9 a10 b0 b1 b2 b3 b4 b5 b6 b7 b8 b9 b10 W ((hW.block _ (a_B hs)).trans hs) ((hW.block _ (a_B hb)).trans hb) ((hW.block _ (a_B hb2)).trans hb2))
def d_4 (x : S33) (a2 : Int) : Bool:=x.f2 == a2 && x.f5 && !x.f6
def areB (x : S33) (a2 : Int) : Bool:=d_4 x a2 && decide (-1 < x.f4)
set_option maxHeartbeats 2000000 in
theorem g_l.calls (g : Nat) (x : S33) (a0 : Int) (a1 : Int) (a2 : Int) (a3 : Int) (a4 : Int) (a5 : Bool) (a6 : Bool) (a7 : Int) (a8 : Int) (a9 : Int) (a10 : Int) (w : World) (hb : w.heap[g]? = some (.cells #[.int .i64 a0,.int .i64 a1,.int .i64 a2,.int .i64 a3,.int .i64 a4,.bool a5,.bool a6,.int .u32 a7,.int .i64 a8,.int .i64 a9,.int .i64 a10] 33 (0,0))) :
 Calls Tryd.prog 21 (#[.agg #[.int .i64 x.f0,.int .i64 x.f1,.int .i64 x.f2,.int .i64 x.f3,.int .i64 x.f4,.bool x.f5,.bool x.f6,.int .u32 x.f7,.int .i64 x.f8,.int .i64 x.f9,.int .i64 x.f10]] ++ #[.pointer (some ⟨g,0,none⟩)]) w fun e w' => e = .returned (.bool (d_4 x a2)) ∧ Below w.heap.size w w':=by
 have hc:=(a_b hb 2).trans rfl
 have hlt:=a_B hb
 clear hb
 have key : ∀ b1 b2 b3 : Bool,(x.f2 == a2) = b1 → x.f5 = b2 → x.f6 = b3 → Calls Tryd.prog 21 (#[.agg #[.int .i64 x.f0,.int .i64 x.f1,.int .i64 x.f2,.int .i64 x.f3,.int .i64 x.f4,.bool x.f5,.bool x.f6,.int .u32 x.f7,.int .i64 x.f8,.int .i64 x.f9,.int .i64 x.f10]] ++ #[.pointer (some ⟨g,0,none⟩)]) w fun e w' => e = .returned (.bool (b1 && b2 && !b3)) ∧ Below w.heap.size w w':=by
  intro b1 b2 b3 h1 h2 h3
  rw [h2,h3]
  cases b1 <;> cases b2 <;> cases b3
  all_goals
   go_enter Tryd.func21,Tryd.ntmps21
   go_wp2
   go_ret
   exact ⟨by first|rfl|simp [h1]|simp [*],(Below.refl _ _).alloc (Nat.le_refl _) _⟩
 exact key _ _ _ rfl rfl rfl
def b_E.f (l0 : List S33) (a0 : Int) (a1 : Int) (a2 : Int) (a3 : Int) (a4 : Int) (a5 : Bool) (a6 : Bool) (a7 : Int) (a8 : Int) (a9 : Int) (a10 : Int) : Option Int:=if l0.length ≤ 1099511627776 then some ((l0.countP (fun s => d_4 s a2) : Nat) : Int) else none
theorem b_E.calls (A0 : Option Addr) (c0 : Nat) (l0 : List S33) (g : Nat) (a0 : Int) (a1 : Int) (a2 : Int) (a3 : Int) (a4 : Int) (a5 : Bool) (a6 : Bool) (a7 : Int) (a8 : Int) (a9 : Int) (a10 : Int) (r : Int) (w : World) (hr0 : Kd.C k33 w A0 l0.length l0) (hc0 : l0.length ≤ c0) (hb : w.heap[g]? = some (.cells #[.int .i64 a0,.int .i64 a1,.int .i64 a2,.int .i64 a3,.int .i64 a4,.bool a5,.bool a6,.int .u32 a7,.int .i64 a8,.int .i64 a9,.int .i64 a10] 33 (0,0))) (h : b_E.f l0 a0 a1 a2 a3 a4 a5 a6 a7 a8 a9 a10 = some r) :
 Calls Tryd.prog 23 #[.slice A0 l0.length c0,.func (.func 21) #[] #[.pointer (some ⟨g,0,none⟩)]] w fun e w' => e = .returned (.int .i64 r) ∧ Below w.heap.size w w':=by
 unfold b_E.f at h
 split at h
 case isFalse => cases h
 case isTrue hl =>
 obtain rfl:=Option.some.inj h
 exact e_z.any 21 _ (e_2 Tryd.func21 (by kernel_rfl) rfl) _ A0 c0 l0 w hr0 hl (fun W hW x _ => g_l.calls g x a0 a1 a2 a3 a4 a5 a6 a7 a8 a9 a10 W ((hW.block _ (a_B hb)).trans hb))
set_option maxHeartbeats 2000000 in
theorem k_t.calls (gs g : Nat) (x : S33) (a0 : Int) (a1 : Int) (a2 : Int) (a3 : Int) (a4 : Int) (a5 : Bool) (a6 : Bool) (a7 : Int) (a8 : Int) (a9 : Int) (a10 : Int) (w : World) (hs : w.heap[gs]? = some (.cells #[.func (.func 21) #[] #[.pointer (some ⟨g,0,none⟩)]] 51 (0,0))) (hb : w.heap[g]? = some (.cells #[.int .i64 a0,.int .i64 a1,.int .i64 a2,.int .i64 a3,.int .i64 a4,.bool a5,.bool a6,.int .u32 a7,.int .i64 a8,.int .i64 a9,.int .i64 a10] 33 (0,0))) :
 Calls Tryd.prog 22 (#[.agg #[.int .i64 x.f0,.int .i64 x.f1,.int .i64 x.f2,.int .i64 x.f3,.int .i64 x.f4,.bool x.f5,.bool x.f6,.int .u32 x.f7,.int .i64 x.f8,.int .i64 x.f9,.int .i64 x.f10]] ++ #[.pointer (some ⟨gs,0,none⟩)]) w fun e w' => e = .returned (.bool (areB x a2)) ∧ Below w.heap.size w w':=by
 have HS:=a_f.mk hs
 have HG:=a_f.mk hb
 have HB:=a_f.mk (Below.refl w.heap.size w)
 clear hs hb
 have key : ∀ b1 b2 : Bool,d_4 x a2 = b1 → decide (-1 < x.f4) = b2 → Calls Tryd.prog 22 (#[.agg #[.int .i64 x.f0,.int .i64 x.f1,.int .i64 x.f2,.int .i64 x.f3,.int .i64 x.f4,.bool x.f5,.bool x.f6,.int .u32 x.f7,.int .i64 x.f8,.int .i64 x.f9,.int .i64 x.f10]] ++ #[.pointer (some ⟨gs,0,none⟩)]) w fun e w' => e = .returned (.bool (b1 && b2)) ∧ Below w.heap.size w w':=by
  intro b1 b2 h1 h2
  have H1:=a_f.mk h1
  clear h1
  cases b1 <;> cases b2
  all_goals
   go_enter Tryd.func22,Tryd.ntmps22
   go_wp2_with (first
    | ((with_reducible refine a_J (N:=2) rfl ?_);refine a_A ?hg (N:=2) ?hd (cs:=#[.int .i64 x.f0,.int .i64 x.f1,.int .i64 x.f2,.int .i64 x.f3,.int .i64 x.f4,.bool x.f5,.bool x.f6,.int .u32 x.f7,.int .i64 x.f8,.int .i64 x.f9,.int .i64 x.f10]) (t:=33) ?hr ?_;(case hd => rfl);(case hg => rfl);(case hr => first|(go_simp;done)|(go_simp;rfl));intro gb hgb wb hbox hb;have m0_:=a_f.mk (a_q HB.out hb);have m1_:=a_f.mk (a_l HS.out hb);have m2_:=a_f.mk (a_l HG.out hb);have BK:=a_f.mk hbox;clear HB HS HG hb hbox hgb;have HB:=m0_;have HS:=m1_;have HG:=m2_;clear m0_ m1_ m2_;have hz0 : wb.cell? ⟨gs,0,none⟩ = some (.func (.func 21) #[] #[.pointer (some ⟨g,0,none⟩)]):=(a_b HS.out 0).trans rfl;have hx0 : wb.cell? ⟨gb,0,none⟩ = some (.int .i64 x.f0):=(a_b BK.out 0).trans rfl;have hx1 : wb.cell? ⟨gb,1,none⟩ = some (.int .i64 x.f1):=(a_b BK.out 1).trans rfl;have hx2 : wb.cell? ⟨gb,2,none⟩ = some (.int .i64 x.f2):=(a_b BK.out 2).trans rfl;have hx3 : wb.cell? ⟨gb,3,none⟩ = some (.int .i64 x.f3):=(a_b BK.out 3).trans rfl;have hx4 : wb.cell? ⟨gb,4,none⟩ = some (.int .i64 x.f4):=(a_b BK.out 4).trans rfl;have hx5 : wb.cell? ⟨gb,5,none⟩ = some (.bool x.f5):=(a_b BK.out 5).trans rfl;have hx6 : wb.cell? ⟨gb,6,none⟩ = some (.bool x.f6):=(a_b BK.out 6).trans rfl;have hx7 : wb.cell? ⟨gb,7,none⟩ = some (.int .u32 x.f7):=(a_b BK.out 7).trans rfl;have hx8 : wb.cell? ⟨gb,8,none⟩ = some (.int .i64 x.f8):=(a_b BK.out 8).trans rfl;have hx9 : wb.cell? ⟨gb,9,none⟩ = some (.int .i64 x.f9):=(a_b BK.out 9).trans rfl;have hx10 : wb.cell? ⟨gb,10,none⟩ = some (.int .i64 x.f10):=(a_b BK.out 10).trans rfl)
    | (go_at_call 21;refine (g_l.calls g x a0 a1 a2 a3 a4 a5 a6 a7 a8 a9 a10 _ HG.out).mono ?_;rintro e w' ⟨rfl,hb⟩;rw [H1.out];clear hz0 hx0 hx1 hx2 hx3 hx4 hx5 hx6 hx7 hx8 hx9 hx10;have m0_:=a_f.mk (a_q HB.out hb);have m4_:=a_f.mk (a_l BK.out hb);clear HB HS HG BK hb;have HB:=m0_;have BK:=m4_;clear m0_ m4_;have hx4 : World.cell? _ ⟨gb,4,none⟩ = some (.int .i64 x.f4):=(a_b BK.out 4).trans rfl))
   go_ret
   exact ⟨by first|rfl|simp [h2]|simp [*],HB.out⟩
 exact key _ _ rfl rfl
def b_I.f (l0 : List S33) (a0 : Int) (a1 : Int) (a2 : Int) (a3 : Int) (a4 : Int) (a5 : Bool) (a6 : Bool) (a7 : Int) (a8 : Int) (a9 : Int) (a10 : Int) : Option Int:=if l0.length ≤ 1099511627776 then some ((l0.countP (fun s => areB s a2) : Nat) : Int) else none
theorem b_I.calls (A0 : Option Addr) (c0 : Nat) (l0 : List S33) (gs g : Nat) (a0 : Int) (a1 : Int) (a2 : Int) (a3 : Int) (a4 : Int) (a5 : Bool) (a6 : Bool) (a7 : Int) (a8 : Int) (a9 : Int) (a10 : Int) (r : Int) (w : World) (hr0 : Kd.C k33 w A0 l0.length l0) (hc0 : l0.length ≤ c0) (hs : w.heap[gs]? = some (.cells #[.func (.func 21) #[] #[.pointer (some ⟨g,0,none⟩)]] 51 (0,0))) (hb : w.heap[g]? = some (.cells #[.int .i64 a0,.int .i64 a1,.int .i64 a2,.int .i64 a3,.int .i64 a4,.bool a5,.bool a6,.int .u32 a7,.int .i64 a8,.int .i64 a9,.int .i64 a10] 33 (0,0))) (h : b_I.f l0 a0 a1 a2 a3 a4 a5 a6 a7 a8 a9 a10 = some r) :
 Calls Tryd.prog 23 #[.slice A0 l0.length c0,.func (.func 22) #[] #[.pointer (some ⟨gs,0,none⟩)]] w fun e w' => e = .returned (.int .i64 r) ∧ Below w.heap.size w w':=by
 unfold b_I.f at h
 split at h
 case isFalse => cases h
 case isTrue hl =>
 obtain rfl:=Option.some.inj h
 exact e_z.any 22 _ (e_2 Tryd.func22 (by kernel_rfl) rfl) _ A0 c0 l0 w hr0 hl (fun W hW x _ => k_t.calls gs g x a0 a1 a2 a3 a4 a5 a6 a7 a8 a9 a10 W ((hW.block _ (a_B hs)).trans hs) ((hW.block _ (a_B hb)).trans hb))
end Go.Proofs.YtgglkfilkagblaaDoor.Q
end
section
namespace Go.Proofs.YtgglkfilkagblaaDoor.Q
open Go.RowKit Go.Proofs.YtgglkfilkagblaaDoorW.PrintWords Go.Proofs.YtgglkfilkagblaaDoorW.PrintLast Go.Proofs.YtgglkfilkagblaaDoorW.PrintMore
set_option linter.unusedVariables false
set_option linter.unusedSimpArgs false
def a_y.f (a0 : Int) (a1 : Int) (a2 : Int) : Option (Bool):=if a0 ≥ a1 then (some (decide (a0 ≤ a2))) else (some false)
set_option maxHeartbeats 8000000 in
set_option maxRecDepth 100000 in
theorem a_y.calls (a0 : Int) (a1 : Int) (a2 : Int) (r : Bool) (w : World) (h : a_y.f a0 a1 a2 = some r) :
 Calls Tryd.prog 45 #[.int .i64 a0,.int .i64 a1,.int .i64 a2] w fun e w' => e = .returned (.bool r) ∧ c_G w w':=by
 have H : (if a0 ≥ a1 then (some (decide (a0 ≤ a2))) else (some false)) = some r:=h
 clear h
 by_cases c4 : a0 ≥ a1
 ·rw [if_pos c4] at H
  have c4b0 : decide (a1 ≤ a0) = true:=decide_eq_true c4
  clear c4
  obtain rfl:=Option.some.inj H
  go_enter Tryd.func45,Tryd.ntmps45
  go_wp2
  go_ret
  exact ⟨by first|rfl|(simp;done)|(simp [*];done),by repeat (first|exact c_G.refl _|apply c_G.step)⟩
 rw [if_neg c4] at H
 have c4b0 : decide (a1 ≤ a0) = false:=decide_eq_false c4
 clear c4
 obtain rfl:=Option.some.inj H
 go_enter Tryd.func45,Tryd.ntmps45
 go_wp2
 go_ret
 exact ⟨by first|rfl|(simp;done)|(simp [*];done),by repeat (first|exact c_G.refl _|apply c_G.step)⟩
end Go.Proofs.YtgglkfilkagblaaDoor.Q
end
section
namespace Go.Proofs.YtgglkfilkagblaaDoor.Q
open Go.RowKit Go.Proofs.YtgglkfilkagblaaDoorW.PrintWords Go.Proofs.YtgglkfilkagblaaDoorW.PrintLast Go.Proofs.YtgglkfilkagblaaDoorW.PrintMore
set_option linter.unusedVariables false
set_option linter.unusedSimpArgs false
def b_3.f (a0 : Int) : Option (Int):=if (Go.bits .andNot .u32 a0 255) = 0 then (some 0) else (some 140)
set_option maxHeartbeats 8000000 in
set_option maxRecDepth 100000 in
theorem b_3.calls (a0 : Int) (r : Int) (w : World) (h : b_3.f a0 = some r) :
 Calls Tryd.prog 46 #[.int .u32 a0] w fun e w' => e = .returned (.int .i64 r) ∧ c_G w w':=by
 have H : (if (Go.bits .andNot .u32 a0 255) = 0 then (some 0) else (some 140)) = some r:=h
 clear h
 by_cases c2 : (Go.bits .andNot .u32 a0 255) = 0
 ·rw [if_pos c2] at H
  have c2b0 : ((Go.bits .andNot .u32 a0 255) == 0) = true:=beq_iff_eq.mpr c2
  have c2b1 : ((Go.bits .andNot .u32 a0 255) != 0) = false:=bne_eq_false_iff_eq.mpr c2
  clear c2
  obtain rfl:=Option.some.inj H
  go_enter Tryd.func46,Tryd.ntmps46
  go_wp2
  go_ret
  exact ⟨by first|rfl|(simp;done)|(simp [*];done),by repeat (first|exact c_G.refl _|apply c_G.step)⟩
 rw [if_neg c2] at H
 have c2b0 : ((Go.bits .andNot .u32 a0 255) == 0) = false:=beq_eq_false_iff_ne.mpr c2
 have c2b1 : ((Go.bits .andNot .u32 a0 255) != 0) = true:=bne_iff_ne.mpr c2
 obtain rfl:=Option.some.inj H
 go_enter Tryd.func46,Tryd.ntmps46
 go_wp2
 go_ret
 exact ⟨by first|rfl|(simp;done)|(simp [*];done),by repeat (first|exact c_G.refl _|apply c_G.step)⟩
end Go.Proofs.YtgglkfilkagblaaDoor.Q
end
section
namespace Go.Proofs.YtgglkfilkagblaaDoor.Q
open Go.RowKit Go.Proofs.YtgglkfilkagblaaDoorW.PrintWords Go.Proofs.YtgglkfilkagblaaDoorW.PrintLast Go.Proofs.YtgglkfilkagblaaDoorW.PrintMore
set_option linter.unusedVariables false
set_option linter.unusedSimpArgs false
def a_D.j0 : Nat → Bool → Int → Int → Int → Int → Int → Bool → Bool → Int → Int → Int → Int → Option (Bool)
 | 0,_,_,_,_,_,_,_,_,_,_,_,_ => none
 | k + 1,x3,x102000,x102001,x102002,x102003,x102004,x102005,x102006,x102007,x102008,x102009,x102010 => if x3 = true then ((a_y.f x102004 (-1) 7).bind fun t106 => (if t106 = true then ((b_3.f x102007).bind fun t107 => (if t107 = 0 then ((a_y.f x102008 1 65535).bind fun t108 => (if t108 = true then ((a_y.f x102009 1 8).bind fun t109 => (if t109 = true then ((a_y.f x102010 0 800).bind fun t110 => (some t110)) else (some false))) else (some false))) else (some false))) else (some false))) else (some false)
def a_D.f (k : Nat) (a0_0 : Int) (a0_1 : Int) (a0_2 : Int) (a0_3 : Int) (a0_4 : Int) (a0_5 : Bool) (a0_6 : Bool) (a0_7 : Int) (a0_8 : Int) (a0_9 : Int) (a0_10 : Int) : Option (Bool):=(a_y.f a0_0 1 16).bind fun t102 => (if t102 = true then ((a_y.f a0_1 1 8).bind fun t103 => (if t103 = true then ((a_y.f a0_2 0 8).bind fun t104 => (if t104 = true then ((a_y.f a0_3 0 3).bind fun t105 => (a_D.j0 k t105 a0_0 a0_1 a0_2 a0_3 a0_4 a0_5 a0_6 a0_7 a0_8 a0_9 a0_10)) else (a_D.j0 k false a0_0 a0_1 a0_2 a0_3 a0_4 a0_5 a0_6 a0_7 a0_8 a0_9 a0_10))) else (a_D.j0 k false a0_0 a0_1 a0_2 a0_3 a0_4 a0_5 a0_6 a0_7 a0_8 a0_9 a0_10))) else (a_D.j0 k false a0_0 a0_1 a0_2 a0_3 a0_4 a0_5 a0_6 a0_7 a0_8 a0_9 a0_10))
theorem a_D.c_9 : ∀ k,(∀ y0 y1 y2 y3 y4 y5 y6 y7 y8 y9 y10 y11,LeO (a_D.j0 k y0 y1 y2 y3 y4 y5 y6 y7 y8 y9 y10 y11) (a_D.j0 (k + 1) y0 y1 y2 y3 y4 y5 y6 y7 y8 y9 y10 y11))
 | 0 => fun _ _ _ _ _ _ _ _ _ _ _ _ r h => by simp [a_D.j0] at h
 | k + 1 => by
  have ih0:=a_D.c_9 k
  ·intro y0 y1 y2 y3 y4 y5 y6 y7 y8 y9 y10 y11
   unfold a_D.j0
   repeat' first
   | (with_reducible exact ih0 _ _ _ _ _ _ _ _ _ _ _ _)
   | (with_reducible exact LeO.refl _)
   | (with_reducible exact LeO.none _)
   | (with_reducible refine LeO.ite ?_ ?_)
   | (with_reducible refine LeO.bind ?_ (fun _ => ?_))
   | exact ih0 _ _ _ _ _ _ _ _ _ _ _ _
   | exact LeO.none _
   | refine LeO.ite ?_ ?_
   | refine LeO.bind ?_ (fun _ => ?_)
theorem a_D.mono : ∀ a0 a1 a2 a3 a4 a5 a6 a7 a8 a9 a10 k,LeO (a_D.f k a0 a1 a2 a3 a4 a5 a6 a7 a8 a9 a10) (a_D.f (k + 1) a0 a1 a2 a3 a4 a5 a6 a7 a8 a9 a10):=by
 intro a0 a1 a2 a3 a4 a5 a6 a7 a8 a9 a10 k
 have ih0:=a_D.c_9 k
 unfold a_D.f
 repeat' first
  | (with_reducible exact ih0 _ _ _ _ _ _ _ _ _ _ _ _)
  | (with_reducible exact LeO.refl _)
  | (with_reducible exact LeO.none _)
  | (with_reducible refine LeO.ite ?_ ?_)
  | (with_reducible refine LeO.bind ?_ (fun _ => ?_))
  | exact ih0 _ _ _ _ _ _ _ _ _ _ _ _
  | exact LeO.none _
  | refine LeO.ite ?_ ?_
  | refine LeO.bind ?_ (fun _ => ?_)
set_option maxHeartbeats 8000000 in
set_option maxRecDepth 100000 in
theorem a_D.calls (k : Nat) (a0_0 : Int) (a0_1 : Int) (a0_2 : Int) (a0_3 : Int) (a0_4 : Int) (a0_5 : Bool) (a0_6 : Bool) (a0_7 : Int) (a0_8 : Int) (a0_9 : Int) (a0_10 : Int) (r : Bool) (w : World) (h : a_D.f k a0_0 a0_1 a0_2 a0_3 a0_4 a0_5 a0_6 a0_7 a0_8 a0_9 a0_10 = some r) :
 Calls Tryd.prog 35 #[.agg #[.int .i64 a0_0,.int .i64 a0_1,.int .i64 a0_2,.int .i64 a0_3,.int .i64 a0_4,.bool a0_5,.bool a0_6,.int .u32 a0_7,.int .i64 a0_8,.int .i64 a0_9,.int .i64 a0_10]] w fun e w' => e = .returned (.bool r) ∧ Below w.heap.size w w':=by
 have hu33:=Tryd.underlying33
 have HB:=a_f.mk (Below.refl w.heap.size w)
 have H : ((a_y.f a0_0 1 16).bind fun t102 => (if t102 = true then ((a_y.f a0_1 1 8).bind fun t103 => (if t103 = true then ((a_y.f a0_2 0 8).bind fun t104 => (if t104 = true then ((a_y.f a0_3 0 3).bind fun t105 => (a_D.j0 k t105 a0_0 a0_1 a0_2 a0_3 a0_4 a0_5 a0_6 a0_7 a0_8 a0_9 a0_10)) else (a_D.j0 k false a0_0 a0_1 a0_2 a0_3 a0_4 a0_5 a0_6 a0_7 a0_8 a0_9 a0_10))) else (a_D.j0 k false a0_0 a0_1 a0_2 a0_3 a0_4 a0_5 a0_6 a0_7 a0_8 a0_9 a0_10))) else (a_D.j0 k false a0_0 a0_1 a0_2 a0_3 a0_4 a0_5 a0_6 a0_7 a0_8 a0_9 a0_10))) = some r:=h
 clear h
 have HC2:=a_f.mk H
 clear H
 go_enter Tryd.func35,Tryd.ntmps35
 go_upto_region 1 with (first|((with_reducible refine a_J (N:=1) rfl ?_);refine a_A ?hg (N:=1) ?hd (cs:=#[.int .i64 a0_0,.int .i64 a0_1,.int .i64 a0_2,.int .i64 a0_3,.int .i64 a0_4,.bool a0_5,.bool a0_6,.int .u32 a0_7,.int .i64 a0_8,.int .i64 a0_9,.int .i64 a0_10]) (t:=33) ?hr ?_;(case hd => rfl);(case hg => rfl);(case hr => first|(go_simp;done)|(go_simp;rfl));intro a_7 hg w3 hbox hb;have a_G:=a_f.mk (hbox);have y_Y:=a_f.mk ((by rw [hg];exact (a_o (lup_ HB.out)) : w.heap.size ≤ a_7));have g_D:=a_f.mk ((by rw [hg];exact (a_o (lup_ HB.out)) : w.heap.size ≤ a_7));replace HB:=a_f.mk (a_q (lup_ HB.out) hb);clear hb hbox hg))
 (try simp only [Act.put,sa_,sb_,sc_])
 go_cut [3] (fun v3 wc => ∃ (kq : Nat) (x3_1 : Bool),v3 = .bool x3_1 ∧ a_f (a_D.j0 kq x3_1 a0_0 a0_1 a0_2 a0_3 a0_4 a0_5 a0_6 a0_7 a0_8 a0_9 a0_10 = some r) ∧ a_f (kq ≤ k) ∧ a_f (wc.heap[a_7]? = some (.cells #[.int .i64 a0_0,.int .i64 a0_1,.int .i64 a0_2,.int .i64 a0_3,.int .i64 a0_4,.bool a0_5,.bool a0_6,.int .u32 a0_7,.int .i64 a0_8,.int .i64 a0_9,.int .i64 a0_10] 33 (0,0))) ∧ a_f (Below w.heap.size w wc))
 case first =>
  have H:=HC2.out
  clear HC2
  replace H:=Option.bind_eq_some_iff.mp H
  obtain ⟨t102,A40,H⟩:=H
  replace H : (if t102 = true then ((a_y.f a0_1 1 8).bind fun t103 => (if t103 = true then ((a_y.f a0_2 0 8).bind fun t104 => (if t104 = true then ((a_y.f a0_3 0 3).bind fun t105 => (a_D.j0 k t105 a0_0 a0_1 a0_2 a0_3 a0_4 a0_5 a0_6 a0_7 a0_8 a0_9 a0_10)) else (a_D.j0 k false a0_0 a0_1 a0_2 a0_3 a0_4 a0_5 a0_6 a0_7 a0_8 a0_9 a0_10))) else (a_D.j0 k false a0_0 a0_1 a0_2 a0_3 a0_4 a0_5 a0_6 a0_7 a0_8 a0_9 a0_10))) else (a_D.j0 k false a0_0 a0_1 a0_2 a0_3 a0_4 a0_5 a0_6 a0_7 a0_8 a0_9 a0_10)) = some r:=H
  have A4:=a_f.mk A40
  clear A40
  by_cases c5 : t102 = true
  rotate_left
  ·replace c5:=Bool.eq_false_iff.mpr c5
   subst c5
   have H1 : (a_D.j0 k false a0_0 a0_1 a0_2 a0_3 a0_4 a0_5 a0_6 a0_7 a0_8 a0_9 a0_10) = some r:=by rw [if_neg (show ¬ (false = true) by decide)] at H;exact H
   clear H
   have H:=H1
   clear H1
   have H':=a_f.mk H
   clear H
   have k_V : w3.cell? ⟨a_7,0,none⟩ = some (.int .i64 a0_0):=(a_b a_G.out 0).trans rfl
   have k_W : w3.cell? ⟨a_7,1,none⟩ = some (.int .i64 a0_1):=(a_b a_G.out 1).trans rfl
   have k_X : w3.cell? ⟨a_7,2,none⟩ = some (.int .i64 a0_2):=(a_b a_G.out 2).trans rfl
   have k_Y : w3.cell? ⟨a_7,3,none⟩ = some (.int .i64 a0_3):=(a_b a_G.out 3).trans rfl
   have k_Z : w3.cell? ⟨a_7,4,none⟩ = some (.int .i64 a0_4):=(a_b a_G.out 4).trans rfl
   have k_0 : w3.cell? ⟨a_7,5,none⟩ = some (.bool a0_5):=(a_b a_G.out 5).trans rfl
   have k_1 : w3.cell? ⟨a_7,6,none⟩ = some (.bool a0_6):=(a_b a_G.out 6).trans rfl
   have k_2 : w3.cell? ⟨a_7,7,none⟩ = some (.int .u32 a0_7):=(a_b a_G.out 7).trans rfl
   have k_3 : w3.cell? ⟨a_7,8,none⟩ = some (.int .i64 a0_8):=(a_b a_G.out 8).trans rfl
   have k_4 : w3.cell? ⟨a_7,9,none⟩ = some (.int .i64 a0_9):=(a_b a_G.out 9).trans rfl
   have j_K : w3.cell? ⟨a_7,10,none⟩ = some (.int .i64 a0_10):=(a_b a_G.out 10).trans rfl
   have l_v:=a_c a_G.out 0
   have l_w:=a_c a_G.out 1
   have l_x:=a_c a_G.out 2
   have l_y:=a_c a_G.out 3
   have l_z:=a_c a_G.out 4
   have l_A:=a_c a_G.out 5
   have l_B:=a_c a_G.out 6
   have l_C:=a_c a_G.out 7
   have l_D:=a_c a_G.out 8
   have l_E:=a_c a_G.out 9
   have j_N:=a_c a_G.out 10
   go_wp2_with (first|((with_reducible refine a_M (f:=45) rfl ?_);refine b_D (some 6) rfl rfl Tryd.func45 (by kernel_rfl) rfl #[.int .i64 a0_0,.int .i64 1,.int .i64 16] rfl (by (try simp only [List.map_toArray,List.map_cons,List.map_nil]);first|done|rfl|(simp only [List.length_drop,List.length_take];rfl)) ?_;(with_reducible refine (a_y.calls a0_0 1 16 false _ A4.out).mono ?_);rintro e w' ⟨rfl,⟨nd,rfl⟩⟩;refine ⟨_,rfl,?_⟩))
   go_meet
   case rel => exact ⟨_,(false),(by first|rfl|(simp;done)|(simp [*];done)),H',⟨by first|omega|exact Nat.le_refl _⟩,⟨by (with_reducible repeat (first|refine a_e ?_ _|refine a_g ?_|refine a_d ?_ _));exact a_G.out⟩,⟨by repeat (first|(with_reducible first|exact HB.out|apply a_j|apply a_h|apply a_k|refine a_i ?_ g_D.out)|exact HB.out)⟩⟩
  subst c5
  have H1 : ((a_y.f a0_1 1 8).bind fun t103 => (if t103 = true then ((a_y.f a0_2 0 8).bind fun t104 => (if t104 = true then ((a_y.f a0_3 0 3).bind fun t105 => (a_D.j0 k t105 a0_0 a0_1 a0_2 a0_3 a0_4 a0_5 a0_6 a0_7 a0_8 a0_9 a0_10)) else (a_D.j0 k false a0_0 a0_1 a0_2 a0_3 a0_4 a0_5 a0_6 a0_7 a0_8 a0_9 a0_10))) else (a_D.j0 k false a0_0 a0_1 a0_2 a0_3 a0_4 a0_5 a0_6 a0_7 a0_8 a0_9 a0_10))) = some r:=by rw [if_pos rfl] at H;exact H
  clear H
  have H:=H1
  clear H1
  replace H:=Option.bind_eq_some_iff.mp H
  obtain ⟨t103,A60,H⟩:=H
  replace H : (if t103 = true then ((a_y.f a0_2 0 8).bind fun t104 => (if t104 = true then ((a_y.f a0_3 0 3).bind fun t105 => (a_D.j0 k t105 a0_0 a0_1 a0_2 a0_3 a0_4 a0_5 a0_6 a0_7 a0_8 a0_9 a0_10)) else (a_D.j0 k false a0_0 a0_1 a0_2 a0_3 a0_4 a0_5 a0_6 a0_7 a0_8 a0_9 a0_10))) else (a_D.j0 k false a0_0 a0_1 a0_2 a0_3 a0_4 a0_5 a0_6 a0_7 a0_8 a0_9 a0_10)) = some r:=H
  have A6:=a_f.mk A60
  clear A60
  by_cases c7 : t103 = true
  rotate_left
  ·replace c7:=Bool.eq_false_iff.mpr c7
   subst c7
   have H1 : (a_D.j0 k false a0_0 a0_1 a0_2 a0_3 a0_4 a0_5 a0_6 a0_7 a0_8 a0_9 a0_10) = some r:=by rw [if_neg (show ¬ (false = true) by decide)] at H;exact H
   clear H
   have H:=H1
   clear H1
   have H':=a_f.mk H
   clear H
   have e_3 : w3.cell? ⟨a_7,0,none⟩ = some (.int .i64 a0_0):=(a_b a_G.out 0).trans rfl
   have e_4 : w3.cell? ⟨a_7,1,none⟩ = some (.int .i64 a0_1):=(a_b a_G.out 1).trans rfl
   have k_N : w3.cell? ⟨a_7,2,none⟩ = some (.int .i64 a0_2):=(a_b a_G.out 2).trans rfl
   have k_O : w3.cell? ⟨a_7,3,none⟩ = some (.int .i64 a0_3):=(a_b a_G.out 3).trans rfl
   have k_P : w3.cell? ⟨a_7,4,none⟩ = some (.int .i64 a0_4):=(a_b a_G.out 4).trans rfl
   have k_Q : w3.cell? ⟨a_7,5,none⟩ = some (.bool a0_5):=(a_b a_G.out 5).trans rfl
   have k_R : w3.cell? ⟨a_7,6,none⟩ = some (.bool a0_6):=(a_b a_G.out 6).trans rfl
   have k_S : w3.cell? ⟨a_7,7,none⟩ = some (.int .u32 a0_7):=(a_b a_G.out 7).trans rfl
   have k_T : w3.cell? ⟨a_7,8,none⟩ = some (.int .i64 a0_8):=(a_b a_G.out 8).trans rfl
   have k_U : w3.cell? ⟨a_7,9,none⟩ = some (.int .i64 a0_9):=(a_b a_G.out 9).trans rfl
   have j_J : w3.cell? ⟨a_7,10,none⟩ = some (.int .i64 a0_10):=(a_b a_G.out 10).trans rfl
   have e_5:=a_c a_G.out 0
   have e_6:=a_c a_G.out 1
   have l_n:=a_c a_G.out 2
   have l_o:=a_c a_G.out 3
   have l_p:=a_c a_G.out 4
   have l_q:=a_c a_G.out 5
   have l_r:=a_c a_G.out 6
   have l_s:=a_c a_G.out 7
   have l_t:=a_c a_G.out 8
   have l_u:=a_c a_G.out 9
   have j_M:=a_c a_G.out 10
   go_wp2_with (first|((with_reducible refine a_M (f:=45) rfl ?_);refine b_D (some 6) rfl rfl Tryd.func45 (by kernel_rfl) rfl #[.int .i64 a0_0,.int .i64 1,.int .i64 16] rfl (by (try simp only [List.map_toArray,List.map_cons,List.map_nil]);first|done|rfl|(simp only [List.length_drop,List.length_take];rfl)) ?_;(with_reducible refine (a_y.calls a0_0 1 16 true _ A4.out).mono ?_);rintro e w' ⟨rfl,⟨nd,rfl⟩⟩;refine ⟨_,rfl,?_⟩)|(go_at_call 45;(with_reducible refine (a_y.calls a0_1 1 8 false _ A6.out).mono ?_);rintro e w' ⟨rfl,⟨nd,rfl⟩⟩))
   go_meet
   case rel => exact ⟨_,(false),(by first|rfl|(simp;done)|(simp [*];done)),H',⟨by first|omega|exact Nat.le_refl _⟩,⟨by (with_reducible repeat (first|refine a_e ?_ _|refine a_g ?_|refine a_d ?_ _));exact a_G.out⟩,⟨by repeat (first|(with_reducible first|exact HB.out|apply a_j|apply a_h|apply a_k|refine a_i ?_ g_D.out)|exact HB.out)⟩⟩
  subst c7
  have H1 : ((a_y.f a0_2 0 8).bind fun t104 => (if t104 = true then ((a_y.f a0_3 0 3).bind fun t105 => (a_D.j0 k t105 a0_0 a0_1 a0_2 a0_3 a0_4 a0_5 a0_6 a0_7 a0_8 a0_9 a0_10)) else (a_D.j0 k false a0_0 a0_1 a0_2 a0_3 a0_4 a0_5 a0_6 a0_7 a0_8 a0_9 a0_10))) = some r:=by rw [if_pos rfl] at H;exact H
  clear H
  have H:=H1
  clear H1
  replace H:=Option.bind_eq_some_iff.mp H
  obtain ⟨t104,A80,H⟩:=H
  replace H : (if t104 = true then ((a_y.f a0_3 0 3).bind fun t105 => (a_D.j0 k t105 a0_0 a0_1 a0_2 a0_3 a0_4 a0_5 a0_6 a0_7 a0_8 a0_9 a0_10)) else (a_D.j0 k false a0_0 a0_1 a0_2 a0_3 a0_4 a0_5 a0_6 a0_7 a0_8 a0_9 a0_10)) = some r:=H
  have A8:=a_f.mk A80
  clear A80
  by_cases c9 : t104 = true
  rotate_left
  ·replace c9:=Bool.eq_false_iff.mpr c9
   subst c9
   have H1 : (a_D.j0 k false a0_0 a0_1 a0_2 a0_3 a0_4 a0_5 a0_6 a0_7 a0_8 a0_9 a0_10) = some r:=by rw [if_neg (show ¬ (false = true) by decide)] at H;exact H
   clear H
   have H:=H1
   clear H1
   have H':=a_f.mk H
   clear H
   have i_k : w3.cell? ⟨a_7,0,none⟩ = some (.int .i64 a0_0):=(a_b a_G.out 0).trans rfl
   have i_l : w3.cell? ⟨a_7,1,none⟩ = some (.int .i64 a0_1):=(a_b a_G.out 1).trans rfl
   have k_F : w3.cell? ⟨a_7,2,none⟩ = some (.int .i64 a0_2):=(a_b a_G.out 2).trans rfl
   have k_G : w3.cell? ⟨a_7,3,none⟩ = some (.int .i64 a0_3):=(a_b a_G.out 3).trans rfl
   have k_H : w3.cell? ⟨a_7,4,none⟩ = some (.int .i64 a0_4):=(a_b a_G.out 4).trans rfl
   have k_I : w3.cell? ⟨a_7,5,none⟩ = some (.bool a0_5):=(a_b a_G.out 5).trans rfl
   have k_J : w3.cell? ⟨a_7,6,none⟩ = some (.bool a0_6):=(a_b a_G.out 6).trans rfl
   have k_K : w3.cell? ⟨a_7,7,none⟩ = some (.int .u32 a0_7):=(a_b a_G.out 7).trans rfl
   have k_L : w3.cell? ⟨a_7,8,none⟩ = some (.int .i64 a0_8):=(a_b a_G.out 8).trans rfl
   have k_M : w3.cell? ⟨a_7,9,none⟩ = some (.int .i64 a0_9):=(a_b a_G.out 9).trans rfl
   have j_I : w3.cell? ⟨a_7,10,none⟩ = some (.int .i64 a0_10):=(a_b a_G.out 10).trans rfl
   have i_J:=a_c a_G.out 0
   have i_K:=a_c a_G.out 1
   have l_f:=a_c a_G.out 2
   have l_g:=a_c a_G.out 3
   have l_h:=a_c a_G.out 4
   have l_i:=a_c a_G.out 5
   have l_j:=a_c a_G.out 6
   have l_k:=a_c a_G.out 7
   have l_l:=a_c a_G.out 8
   have l_m:=a_c a_G.out 9
   have j_L:=a_c a_G.out 10
   go_wp2_with (first|((with_reducible refine a_M (f:=45) rfl ?_);refine b_D (some 6) rfl rfl Tryd.func45 (by kernel_rfl) rfl #[.int .i64 a0_0,.int .i64 1,.int .i64 16] rfl (by (try simp only [List.map_toArray,List.map_cons,List.map_nil]);first|done|rfl|(simp only [List.length_drop,List.length_take];rfl)) ?_;(with_reducible refine (a_y.calls a0_0 1 16 true _ A4.out).mono ?_);rintro e w' ⟨rfl,⟨nd,rfl⟩⟩;refine ⟨_,rfl,?_⟩)|(go_at_call 45;(with_reducible refine (a_y.calls a0_1 1 8 true _ A6.out).mono ?_);rintro e w' ⟨rfl,⟨nd,rfl⟩⟩)|(go_at_call 45;(with_reducible refine (a_y.calls a0_2 0 8 false _ A8.out).mono ?_);rintro e w' ⟨rfl,⟨nd,rfl⟩⟩))
   go_meet
   case rel => exact ⟨_,(false),(by first|rfl|(simp;done)|(simp [*];done)),H',⟨by first|omega|exact Nat.le_refl _⟩,⟨by (with_reducible repeat (first|refine a_e ?_ _|refine a_g ?_|refine a_d ?_ _));exact a_G.out⟩,⟨by repeat (first|(with_reducible first|exact HB.out|apply a_j|apply a_h|apply a_k|refine a_i ?_ g_D.out)|exact HB.out)⟩⟩
  subst c9
  have H1 : ((a_y.f a0_3 0 3).bind fun t105 => (a_D.j0 k t105 a0_0 a0_1 a0_2 a0_3 a0_4 a0_5 a0_6 a0_7 a0_8 a0_9 a0_10)) = some r:=by rw [if_pos rfl] at H;exact H
  clear H
  have H:=H1
  clear H1
  replace H:=Option.bind_eq_some_iff.mp H
  obtain ⟨t105,A100,H⟩:=H
  replace H : (a_D.j0 k t105 a0_0 a0_1 a0_2 a0_3 a0_4 a0_5 a0_6 a0_7 a0_8 a0_9 a0_10) = some r:=H
  have A10:=a_f.mk A100
  clear A100
  have H':=a_f.mk H
  clear H
  have k_D : w3.cell? ⟨a_7,0,none⟩ = some (.int .i64 a0_0):=(a_b a_G.out 0).trans rfl
  have k_E : w3.cell? ⟨a_7,1,none⟩ = some (.int .i64 a0_1):=(a_b a_G.out 1).trans rfl
  have n_I : w3.cell? ⟨a_7,2,none⟩ = some (.int .i64 a0_2):=(a_b a_G.out 2).trans rfl
  have n_J : w3.cell? ⟨a_7,3,none⟩ = some (.int .i64 a0_3):=(a_b a_G.out 3).trans rfl
  have n_K : w3.cell? ⟨a_7,4,none⟩ = some (.int .i64 a0_4):=(a_b a_G.out 4).trans rfl
  have n_L : w3.cell? ⟨a_7,5,none⟩ = some (.bool a0_5):=(a_b a_G.out 5).trans rfl
  have n_M : w3.cell? ⟨a_7,6,none⟩ = some (.bool a0_6):=(a_b a_G.out 6).trans rfl
  have n_N : w3.cell? ⟨a_7,7,none⟩ = some (.int .u32 a0_7):=(a_b a_G.out 7).trans rfl
  have n_O : w3.cell? ⟨a_7,8,none⟩ = some (.int .i64 a0_8):=(a_b a_G.out 8).trans rfl
  have n_P : w3.cell? ⟨a_7,9,none⟩ = some (.int .i64 a0_9):=(a_b a_G.out 9).trans rfl
  have m_i : w3.cell? ⟨a_7,10,none⟩ = some (.int .i64 a0_10):=(a_b a_G.out 10).trans rfl
  have l_d:=a_c a_G.out 0
  have l_e:=a_c a_G.out 1
  have p_i:=a_c a_G.out 2
  have p_j:=a_c a_G.out 3
  have p_k:=a_c a_G.out 4
  have p_l:=a_c a_G.out 5
  have p_m:=a_c a_G.out 6
  have p_n:=a_c a_G.out 7
  have p_o:=a_c a_G.out 8
  have p_p:=a_c a_G.out 9
  have m_s:=a_c a_G.out 10
  go_wp2_with (first|((with_reducible refine a_M (f:=45) rfl ?_);refine b_D (some 6) rfl rfl Tryd.func45 (by kernel_rfl) rfl #[.int .i64 a0_0,.int .i64 1,.int .i64 16] rfl (by (try simp only [List.map_toArray,List.map_cons,List.map_nil]);first|done|rfl|(simp only [List.length_drop,List.length_take];rfl)) ?_;(with_reducible refine (a_y.calls a0_0 1 16 true _ A4.out).mono ?_);rintro e w' ⟨rfl,⟨nd,rfl⟩⟩;refine ⟨_,rfl,?_⟩)|(go_at_call 45;(with_reducible refine (a_y.calls a0_1 1 8 true _ A6.out).mono ?_);rintro e w' ⟨rfl,⟨nd,rfl⟩⟩)|(go_at_call 45;(with_reducible refine (a_y.calls a0_2 0 8 true _ A8.out).mono ?_);rintro e w' ⟨rfl,⟨nd,rfl⟩⟩)|(go_at_call 45;(with_reducible refine (a_y.calls a0_3 0 3 t105 _ A10.out).mono ?_);rintro e w' ⟨rfl,⟨nd,rfl⟩⟩))
  go_meet
  case rel => exact ⟨_,(t105),(by first|rfl|(simp;done)|(simp [*];done)),H',⟨by first|omega|exact Nat.le_refl _⟩,⟨by (with_reducible repeat (first|refine a_e ?_ _|refine a_g ?_|refine a_d ?_ _));exact a_G.out⟩,⟨by repeat (first|(with_reducible first|exact HB.out|apply a_j|apply a_h|apply a_k|refine a_i ?_ g_D.out)|exact HB.out)⟩⟩
 case rest =>
  clear HC2
  try clear p2
  try clear c3
  try clear c4
  try clear c5
  try clear c7
  try clear c9
  try clear k_D
  try clear k_E
  try clear m_i
  try clear n_I
  try clear n_J
  try clear n_K
  try clear n_L
  try clear n_M
  try clear n_N
  try clear n_O
  try clear n_P
  try clear i_k
  try clear i_l
  try clear j_I
  try clear k_F
  try clear k_G
  try clear k_H
  try clear k_I
  try clear k_J
  try clear k_K
  try clear k_L
  try clear k_M
  try clear e_3
  try clear e_4
  try clear j_J
  try clear k_N
  try clear k_O
  try clear k_P
  try clear k_Q
  try clear k_R
  try clear k_S
  try clear k_T
  try clear k_U
  try clear k_V
  try clear k_W
  try clear j_K
  try clear k_X
  try clear k_Y
  try clear k_Z
  try clear k_0
  try clear k_1
  try clear k_2
  try clear k_3
  try clear k_4
  try clear l_d
  try clear l_e
  try clear m_s
  try clear p_i
  try clear p_j
  try clear p_k
  try clear p_l
  try clear p_m
  try clear p_n
  try clear p_o
  try clear p_p
  try clear i_J
  try clear i_K
  try clear j_L
  try clear l_f
  try clear l_g
  try clear l_h
  try clear l_i
  try clear l_j
  try clear l_k
  try clear l_l
  try clear l_m
  try clear e_5
  try clear e_6
  try clear j_M
  try clear l_n
  try clear l_o
  try clear l_p
  try clear l_q
  try clear l_r
  try clear l_s
  try clear l_t
  try clear l_u
  try clear l_v
  try clear l_w
  try clear j_N
  try clear l_x
  try clear l_y
  try clear l_z
  try clear l_A
  try clear l_B
  try clear l_C
  try clear l_D
  try clear l_E
  obtain ⟨kq,x3_1,rfl,HA,HJ1,a_G,HB⟩:=hcut
  cases kq with
  | zero => exact absurd HA.out (by simp [a_D.j0])
  | succ kj1 =>
   have H:=HA.out
   clear HA
   simp only [a_D.j0] at H
   by_cases c15 : x3_1 = true
   rotate_left
   ·replace c15:=Bool.eq_false_iff.mpr c15
    subst c15
    have H1 : (some false) = some r:=by rw [if_neg (show ¬ (false = true) by decide)] at H;exact H
    clear H
    have H:=H1
    clear H1
    obtain rfl:=Option.some.inj H
    go_wp2
    go_ret
    exact ⟨by first|rfl|(simp [a_u,a_v] <;> rfl)|(simp [*, a_u,a_v] <;> rfl),by repeat (first|(with_reducible first|exact HB.out|apply a_j|apply a_h|apply a_k|refine a_i ?_ g_D.out)|exact HB.out)⟩
   subst c15
   have H1 : ((a_y.f a0_4 (-1) 7).bind fun t106 => (if t106 = true then ((b_3.f a0_7).bind fun t107 => (if t107 = 0 then ((a_y.f a0_8 1 65535).bind fun t108 => (if t108 = true then ((a_y.f a0_9 1 8).bind fun t109 => (if t109 = true then ((a_y.f a0_10 0 800).bind fun t110 => (some t110)) else (some false))) else (some false))) else (some false))) else (some false))) = some r:=by rw [if_pos rfl] at H;exact H
   clear H
   have H:=H1
   clear H1
   replace H:=Option.bind_eq_some_iff.mp H
   obtain ⟨t106,A160,H⟩:=H
   replace H : (if t106 = true then ((b_3.f a0_7).bind fun t107 => (if t107 = 0 then ((a_y.f a0_8 1 65535).bind fun t108 => (if t108 = true then ((a_y.f a0_9 1 8).bind fun t109 => (if t109 = true then ((a_y.f a0_10 0 800).bind fun t110 => (some t110)) else (some false))) else (some false))) else (some false))) else (some false)) = some r:=H
   have A16:=a_f.mk A160
   clear A160
   by_cases c17 : t106 = true
   rotate_left
   ·replace c17:=Bool.eq_false_iff.mpr c17
    subst c17
    have H1 : (some false) = some r:=by rw [if_neg (show ¬ (false = true) by decide)] at H;exact H
    clear H
    have H:=H1
    clear H1
    obtain rfl:=Option.some.inj H
    have t_T : wc.cell? ⟨a_7,0,none⟩ = some (.int .i64 a0_0):=(a_b a_G.out 0).trans rfl
    have t_U : wc.cell? ⟨a_7,1,none⟩ = some (.int .i64 a0_1):=(a_b a_G.out 1).trans rfl
    have t_V : wc.cell? ⟨a_7,2,none⟩ = some (.int .i64 a0_2):=(a_b a_G.out 2).trans rfl
    have t_W : wc.cell? ⟨a_7,3,none⟩ = some (.int .i64 a0_3):=(a_b a_G.out 3).trans rfl
    have t_X : wc.cell? ⟨a_7,4,none⟩ = some (.int .i64 a0_4):=(a_b a_G.out 4).trans rfl
    have t_Y : wc.cell? ⟨a_7,5,none⟩ = some (.bool a0_5):=(a_b a_G.out 5).trans rfl
    have t_Z : wc.cell? ⟨a_7,6,none⟩ = some (.bool a0_6):=(a_b a_G.out 6).trans rfl
    have t_0 : wc.cell? ⟨a_7,7,none⟩ = some (.int .u32 a0_7):=(a_b a_G.out 7).trans rfl
    have t_1 : wc.cell? ⟨a_7,8,none⟩ = some (.int .i64 a0_8):=(a_b a_G.out 8).trans rfl
    have t_2 : wc.cell? ⟨a_7,9,none⟩ = some (.int .i64 a0_9):=(a_b a_G.out 9).trans rfl
    have r_9 : wc.cell? ⟨a_7,10,none⟩ = some (.int .i64 a0_10):=(a_b a_G.out 10).trans rfl
    have w_p:=a_c a_G.out 0
    have w_q:=a_c a_G.out 1
    have w_r:=a_c a_G.out 2
    have w_s:=a_c a_G.out 3
    have w_t:=a_c a_G.out 4
    have w_u:=a_c a_G.out 5
    have w_v:=a_c a_G.out 6
    have w_w:=a_c a_G.out 7
    have w_x:=a_c a_G.out 8
    have w_y:=a_c a_G.out 9
    have s_r:=a_c a_G.out 10
    go_wp2_with (first|(go_at_call 45;(with_reducible refine (a_y.calls a0_4 (-1) 7 false _ A16.out).mono ?_);rintro e w' ⟨rfl,⟨nd,rfl⟩⟩))
    go_ret
    exact ⟨by first|rfl|(simp [a_u,a_v] <;> rfl)|(simp [*, a_u,a_v] <;> rfl),by repeat (first|(with_reducible first|exact HB.out|apply a_j|apply a_h|apply a_k|refine a_i ?_ g_D.out)|exact HB.out)⟩
   subst c17
   have H1 : ((b_3.f a0_7).bind fun t107 => (if t107 = 0 then ((a_y.f a0_8 1 65535).bind fun t108 => (if t108 = true then ((a_y.f a0_9 1 8).bind fun t109 => (if t109 = true then ((a_y.f a0_10 0 800).bind fun t110 => (some t110)) else (some false))) else (some false))) else (some false))) = some r:=by rw [if_pos rfl] at H;exact H
   clear H
   have H:=H1
   clear H1
   replace H:=Option.bind_eq_some_iff.mp H
   obtain ⟨t107,A180,H⟩:=H
   replace H : (if t107 = 0 then ((a_y.f a0_8 1 65535).bind fun t108 => (if t108 = true then ((a_y.f a0_9 1 8).bind fun t109 => (if t109 = true then ((a_y.f a0_10 0 800).bind fun t110 => (some t110)) else (some false))) else (some false))) else (some false)) = some r:=H
   have A18:=a_f.mk A180
   clear A180
   by_cases c19 : t107 = 0
   rotate_left
   ·rw [if_neg c19] at H
    have c19b0 : (t107 == 0) = false:=beq_eq_false_iff_ne.mpr c19
    have c19b1 : (t107 != 0) = true:=bne_iff_ne.mpr c19
    obtain rfl:=Option.some.inj H
    have h_a : wc.cell? ⟨a_7,0,none⟩ = some (.int .i64 a0_0):=(a_b a_G.out 0).trans rfl
    have h_b : wc.cell? ⟨a_7,1,none⟩ = some (.int .i64 a0_1):=(a_b a_G.out 1).trans rfl
    have n_Z : wc.cell? ⟨a_7,2,none⟩ = some (.int .i64 a0_2):=(a_b a_G.out 2).trans rfl
    have n_0 : wc.cell? ⟨a_7,3,none⟩ = some (.int .i64 a0_3):=(a_b a_G.out 3).trans rfl
    have n_1 : wc.cell? ⟨a_7,4,none⟩ = some (.int .i64 a0_4):=(a_b a_G.out 4).trans rfl
    have n_2 : wc.cell? ⟨a_7,5,none⟩ = some (.bool a0_5):=(a_b a_G.out 5).trans rfl
    have n_3 : wc.cell? ⟨a_7,6,none⟩ = some (.bool a0_6):=(a_b a_G.out 6).trans rfl
    have n_4 : wc.cell? ⟨a_7,7,none⟩ = some (.int .u32 a0_7):=(a_b a_G.out 7).trans rfl
    have n_5 : wc.cell? ⟨a_7,8,none⟩ = some (.int .i64 a0_8):=(a_b a_G.out 8).trans rfl
    have n_6 : wc.cell? ⟨a_7,9,none⟩ = some (.int .i64 a0_9):=(a_b a_G.out 9).trans rfl
    have m_k : wc.cell? ⟨a_7,10,none⟩ = some (.int .i64 a0_10):=(a_b a_G.out 10).trans rfl
    have h_j:=a_c a_G.out 0
    have h_k:=a_c a_G.out 1
    have p_z:=a_c a_G.out 2
    have p_A:=a_c a_G.out 3
    have p_B:=a_c a_G.out 4
    have p_C:=a_c a_G.out 5
    have p_D:=a_c a_G.out 6
    have p_E:=a_c a_G.out 7
    have p_F:=a_c a_G.out 8
    have p_G:=a_c a_G.out 9
    have m_u:=a_c a_G.out 10
    go_wp2_with (first|(go_at_call 45;(with_reducible refine (a_y.calls a0_4 (-1) 7 true _ A16.out).mono ?_);rintro e w' ⟨rfl,⟨nd,rfl⟩⟩)|(go_at_call 46;(with_reducible refine (b_3.calls a0_7 t107 _ A18.out).mono ?_);rintro e w' ⟨rfl,⟨nd,rfl⟩⟩))
    go_ret
    exact ⟨by first|rfl|(simp [a_u,a_v] <;> rfl)|(simp [*, a_u,a_v] <;> rfl),by repeat (first|(with_reducible first|exact HB.out|apply a_j|apply a_h|apply a_k|refine a_i ?_ g_D.out)|exact HB.out)⟩
   rw [if_pos c19] at H
   have c19b0 : (t107 == 0) = true:=beq_iff_eq.mpr c19
   have c19b1 : (t107 != 0) = false:=bne_eq_false_iff_eq.mpr c19
   clear c19
   replace H:=Option.bind_eq_some_iff.mp H
   obtain ⟨t108,A200,H⟩:=H
   replace H : (if t108 = true then ((a_y.f a0_9 1 8).bind fun t109 => (if t109 = true then ((a_y.f a0_10 0 800).bind fun t110 => (some t110)) else (some false))) else (some false)) = some r:=H
   have A20:=a_f.mk A200
   clear A200
   by_cases c21 : t108 = true
   rotate_left
   ·replace c21:=Bool.eq_false_iff.mpr c21
    subst c21
    have H1 : (some false) = some r:=by rw [if_neg (show ¬ (false = true) by decide)] at H;exact H
    clear H
    have H:=H1
    clear H1
    obtain rfl:=Option.some.inj H
    have k_7 : wc.cell? ⟨a_7,0,none⟩ = some (.int .i64 a0_0):=(a_b a_G.out 0).trans rfl
    have n_Y : wc.cell? ⟨a_7,1,none⟩ = some (.int .i64 a0_1):=(a_b a_G.out 1).trans rfl
    have t_L : wc.cell? ⟨a_7,2,none⟩ = some (.int .i64 a0_2):=(a_b a_G.out 2).trans rfl
    have t_M : wc.cell? ⟨a_7,3,none⟩ = some (.int .i64 a0_3):=(a_b a_G.out 3).trans rfl
    have t_N : wc.cell? ⟨a_7,4,none⟩ = some (.int .i64 a0_4):=(a_b a_G.out 4).trans rfl
    have t_O : wc.cell? ⟨a_7,5,none⟩ = some (.bool a0_5):=(a_b a_G.out 5).trans rfl
    have t_P : wc.cell? ⟨a_7,6,none⟩ = some (.bool a0_6):=(a_b a_G.out 6).trans rfl
    have t_Q : wc.cell? ⟨a_7,7,none⟩ = some (.int .u32 a0_7):=(a_b a_G.out 7).trans rfl
    have t_R : wc.cell? ⟨a_7,8,none⟩ = some (.int .i64 a0_8):=(a_b a_G.out 8).trans rfl
    have t_S : wc.cell? ⟨a_7,9,none⟩ = some (.int .i64 a0_9):=(a_b a_G.out 9).trans rfl
    have r_8 : wc.cell? ⟨a_7,10,none⟩ = some (.int .i64 a0_10):=(a_b a_G.out 10).trans rfl
    have l_H:=a_c a_G.out 0
    have p_y:=a_c a_G.out 1
    have w_h:=a_c a_G.out 2
    have w_i:=a_c a_G.out 3
    have w_j:=a_c a_G.out 4
    have w_k:=a_c a_G.out 5
    have w_l:=a_c a_G.out 6
    have w_m:=a_c a_G.out 7
    have w_n:=a_c a_G.out 8
    have w_o:=a_c a_G.out 9
    have s_q:=a_c a_G.out 10
    go_wp2_with (first|(go_at_call 45;(with_reducible refine (a_y.calls a0_4 (-1) 7 true _ A16.out).mono ?_);rintro e w' ⟨rfl,⟨nd,rfl⟩⟩)|(go_at_call 46;(with_reducible refine (b_3.calls a0_7 t107 _ A18.out).mono ?_);rintro e w' ⟨rfl,⟨nd,rfl⟩⟩)|(go_at_call 45;(with_reducible refine (a_y.calls a0_8 1 65535 false _ A20.out).mono ?_);rintro e w' ⟨rfl,⟨nd,rfl⟩⟩))
    go_ret
    exact ⟨by first|rfl|(simp [a_u,a_v] <;> rfl)|(simp [*, a_u,a_v] <;> rfl),by repeat (first|(with_reducible first|exact HB.out|apply a_j|apply a_h|apply a_k|refine a_i ?_ g_D.out)|exact HB.out)⟩
   subst c21
   have H1 : ((a_y.f a0_9 1 8).bind fun t109 => (if t109 = true then ((a_y.f a0_10 0 800).bind fun t110 => (some t110)) else (some false))) = some r:=by rw [if_pos rfl] at H;exact H
   clear H
   have H:=H1
   clear H1
   replace H:=Option.bind_eq_some_iff.mp H
   obtain ⟨t109,A220,H⟩:=H
   replace H : (if t109 = true then ((a_y.f a0_10 0 800).bind fun t110 => (some t110)) else (some false)) = some r:=H
   have A22:=a_f.mk A220
   clear A220
   by_cases c23 : t109 = true
   rotate_left
   ·replace c23:=Bool.eq_false_iff.mpr c23
    subst c23
    have H1 : (some false) = some r:=by rw [if_neg (show ¬ (false = true) by decide)] at H;exact H
    clear H
    have H:=H1
    clear H1
    obtain rfl:=Option.some.inj H
    have i_B : wc.cell? ⟨a_7,0,none⟩ = some (.int .i64 a0_0):=(a_b a_G.out 0).trans rfl
    have i_C : wc.cell? ⟨a_7,1,none⟩ = some (.int .i64 a0_1):=(a_b a_G.out 1).trans rfl
    have t_D : wc.cell? ⟨a_7,2,none⟩ = some (.int .i64 a0_2):=(a_b a_G.out 2).trans rfl
    have t_E : wc.cell? ⟨a_7,3,none⟩ = some (.int .i64 a0_3):=(a_b a_G.out 3).trans rfl
    have t_F : wc.cell? ⟨a_7,4,none⟩ = some (.int .i64 a0_4):=(a_b a_G.out 4).trans rfl
    have t_G : wc.cell? ⟨a_7,5,none⟩ = some (.bool a0_5):=(a_b a_G.out 5).trans rfl
    have t_H : wc.cell? ⟨a_7,6,none⟩ = some (.bool a0_6):=(a_b a_G.out 6).trans rfl
    have t_I : wc.cell? ⟨a_7,7,none⟩ = some (.int .u32 a0_7):=(a_b a_G.out 7).trans rfl
    have t_J : wc.cell? ⟨a_7,8,none⟩ = some (.int .i64 a0_8):=(a_b a_G.out 8).trans rfl
    have t_K : wc.cell? ⟨a_7,9,none⟩ = some (.int .i64 a0_9):=(a_b a_G.out 9).trans rfl
    have r_7 : wc.cell? ⟨a_7,10,none⟩ = some (.int .i64 a0_10):=(a_b a_G.out 10).trans rfl
    have i_0:=a_c a_G.out 0
    have i_1:=a_c a_G.out 1
    have v_9:=a_c a_G.out 2
    have w_a:=a_c a_G.out 3
    have w_b:=a_c a_G.out 4
    have w_c:=a_c a_G.out 5
    have w_d:=a_c a_G.out 6
    have w_e:=a_c a_G.out 7
    have w_f:=a_c a_G.out 8
    have w_g:=a_c a_G.out 9
    have s_p:=a_c a_G.out 10
    go_wp2_with (first|(go_at_call 45;(with_reducible refine (a_y.calls a0_4 (-1) 7 true _ A16.out).mono ?_);rintro e w' ⟨rfl,⟨nd,rfl⟩⟩)|(go_at_call 46;(with_reducible refine (b_3.calls a0_7 t107 _ A18.out).mono ?_);rintro e w' ⟨rfl,⟨nd,rfl⟩⟩)|(go_at_call 45;(with_reducible refine (a_y.calls a0_8 1 65535 true _ A20.out).mono ?_);rintro e w' ⟨rfl,⟨nd,rfl⟩⟩)|(go_at_call 45;(with_reducible refine (a_y.calls a0_9 1 8 false _ A22.out).mono ?_);rintro e w' ⟨rfl,⟨nd,rfl⟩⟩))
    go_ret
    exact ⟨by first|rfl|(simp [a_u,a_v] <;> rfl)|(simp [*, a_u,a_v] <;> rfl),by repeat (first|(with_reducible first|exact HB.out|apply a_j|apply a_h|apply a_k|refine a_i ?_ g_D.out)|exact HB.out)⟩
   subst c23
   have H1 : ((a_y.f a0_10 0 800).bind fun t110 => (some t110)) = some r:=by rw [if_pos rfl] at H;exact H
   clear H
   have H:=H1
   clear H1
   replace H:=Option.bind_eq_some_iff.mp H
   obtain ⟨t110,A240,H⟩:=H
   replace H : (some t110) = some r:=H
   have A24:=a_f.mk A240
   clear A240
   obtain rfl:=Option.some.inj H
   have i_r : wc.cell? ⟨a_7,0,none⟩ = some (.int .i64 a0_0):=(a_b a_G.out 0).trans rfl
   have i_s : wc.cell? ⟨a_7,1,none⟩ = some (.int .i64 a0_1):=(a_b a_G.out 1).trans rfl
   have i_t : wc.cell? ⟨a_7,2,none⟩ = some (.int .i64 a0_2):=(a_b a_G.out 2).trans rfl
   have i_u : wc.cell? ⟨a_7,3,none⟩ = some (.int .i64 a0_3):=(a_b a_G.out 3).trans rfl
   have i_v : wc.cell? ⟨a_7,4,none⟩ = some (.int .i64 a0_4):=(a_b a_G.out 4).trans rfl
   have i_w : wc.cell? ⟨a_7,5,none⟩ = some (.bool a0_5):=(a_b a_G.out 5).trans rfl
   have i_x : wc.cell? ⟨a_7,6,none⟩ = some (.bool a0_6):=(a_b a_G.out 6).trans rfl
   have i_y : wc.cell? ⟨a_7,7,none⟩ = some (.int .u32 a0_7):=(a_b a_G.out 7).trans rfl
   have i_z : wc.cell? ⟨a_7,8,none⟩ = some (.int .i64 a0_8):=(a_b a_G.out 8).trans rfl
   have i_A : wc.cell? ⟨a_7,9,none⟩ = some (.int .i64 a0_9):=(a_b a_G.out 9).trans rfl
   have g_9 : wc.cell? ⟨a_7,10,none⟩ = some (.int .i64 a0_10):=(a_b a_G.out 10).trans rfl
   have i_Q:=a_c a_G.out 0
   have i_R:=a_c a_G.out 1
   have i_S:=a_c a_G.out 2
   have i_T:=a_c a_G.out 3
   have i_U:=a_c a_G.out 4
   have i_V:=a_c a_G.out 5
   have i_W:=a_c a_G.out 6
   have i_X:=a_c a_G.out 7
   have i_Y:=a_c a_G.out 8
   have i_Z:=a_c a_G.out 9
   have h_i:=a_c a_G.out 10
   go_wp2_with (first|(go_at_call 45;(with_reducible refine (a_y.calls a0_4 (-1) 7 true _ A16.out).mono ?_);rintro e w' ⟨rfl,⟨nd,rfl⟩⟩)|(go_at_call 46;(with_reducible refine (b_3.calls a0_7 t107 _ A18.out).mono ?_);rintro e w' ⟨rfl,⟨nd,rfl⟩⟩)|(go_at_call 45;(with_reducible refine (a_y.calls a0_8 1 65535 true _ A20.out).mono ?_);rintro e w' ⟨rfl,⟨nd,rfl⟩⟩)|(go_at_call 45;(with_reducible refine (a_y.calls a0_9 1 8 true _ A22.out).mono ?_);rintro e w' ⟨rfl,⟨nd,rfl⟩⟩)|(go_at_call 45;(with_reducible refine (a_y.calls a0_10 0 800 t110 _ A24.out).mono ?_);rintro e w' ⟨rfl,⟨nd,rfl⟩⟩))
   go_ret
   exact ⟨by first|rfl|(simp [a_u,a_v] <;> rfl)|(simp [*, a_u,a_v] <;> rfl),by repeat (first|(with_reducible first|exact HB.out|apply a_j|apply a_h|apply a_k|refine a_i ?_ g_D.out)|exact HB.out)⟩
end Go.Proofs.YtgglkfilkagblaaDoor.Q
end
