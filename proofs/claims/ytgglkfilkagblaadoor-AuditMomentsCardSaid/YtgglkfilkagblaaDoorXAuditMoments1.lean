/- Part 2 of 13 of what the row of AuditMoments stands on: contracts over the given program's functions, the plain law, the row; no condition beyond those that each theorem states. -/
import Derived.Test.YtgglkfilkagblaaDoorXAuditMoments0
import Derived.Test.YtgglkfilkagblaaDoorProg
import Derived.Shelf.Abstract
import Derived.Laws.EntriesVeiled
import Derived.WalkSpells
import Derived.Shelf.Spec.TrailingZeros
import Derived.Test.YtgglkfilkagblaaDoorRows
import Derived.Deep.Slices
import Derived.ChangeArms
import Derived.DataReads
import Derived.ProofKit
import Derived.OpenShut
import Derived.ChangeOld
import Derived.SizedLaws
section
namespace Go.Proofs.YtgglkfilkagblaaDoor
open Go.RowKit Go.Proofs.YtgglkfilkagblaaDoorW.PrintWords Go.Proofs.YtgglkfilkagblaaDoorW.PrintLast Go.Proofs.YtgglkfilkagblaaDoorW.PrintMore
def Up_ (w W : World) : Prop:=Below w.heap.size w W
instance (priority:=low) up0_ (w : World) : Nonempty (Up_ w w):=⟨Below.refl _ _⟩
instance upA_ (w W : World) (o : Obj) [h : Nonempty (Up_ w W)] : Nonempty (Up_ w (W.alloc o)):=h.elim fun h => ⟨a_j h o⟩
instance upN_ (w W : World) (n : Nat) [h : Nonempty (Up_ w W)] : Nonempty (Up_ w (W.drewN n)):=h.elim fun h => ⟨a_f h n⟩
instance upD_ (w W : World) [h : Nonempty (Up_ w W)] : Nonempty (Up_ w W.drew):=h.elim fun h => ⟨f_V h⟩
theorem bup_ {w W : World} {g : Nat} {o : Obj} (h : w.heap[g]? = some o) [u : Nonempty (Up_ w W)] : W.heap[g]? = some o:=u.elim fun b => a_m h b
theorem rup_ {α : Type} {d : Kd α} {e : Nat} {w W : World} {base : Nat} {ok : Nat → Prop} {v : Value} {xs : List α} (h : d.R e w base ok v xs) [u : Nonempty (Up_ w W)] : d.R e W base ok v xs:=u.elim fun b => Kd.c_A h b
theorem lup_ {w0 w W : World} (h : Below w0.heap.size w0 w) [u : Nonempty (Up_ w W)] : Below w0.heap.size w0 W:=u.elim fun b => a_p h b
abbrev T_ : Bool:=true
abbrev F_ : Bool:=false
theorem sa_ {α : Type} (l : List α) (i : Nat) (a : α) : l.toArray.setIfInBounds i a = (l.set i a).toArray:=List.setIfInBounds_toArray l i a
theorem sb_ {α : Type} (x : α) (l : List α) (a : α) : (x :: l).set 0 a = a :: l:=rfl
theorem sc_ {α : Type} (x : α) (l : List α) (i : Nat) (a : α) : (x :: l).set (i + 1) a = x :: l.set i a:=rfl
section
variable {P : Program} {ops : Array Oper} {Q : Exit → Act → World → Prop} {md : Region.Mode} {S : World → Prop} {ds : List Nat} {T : Bool × List (List Nat × List Nat)}
theorem pk_ {oi : Oper} {fuel : Nat} {l : Array Bool} {a a' : Act} {w : World} (i : Nat) (N : Option Tmp) (l' : Array Bool) (HT : a_g (rtab md ops = T)) (h : b_D P md ops Q S ds fuel l' a' w) (hi : ops[i]? = some oi:=by rfl) (hN : oi.dst = N:=by rfl) (hc : anyT T l.toList l'.toList i = true:=by kernel_rfl) (hQ : ∀ c a w,Q (.panic c) (a.put oi.dst undef) w → Q (.panic c) a w:=by exact fun _ _ _ h => h) (hg : Region.wanted oi (yielded ops a.tmps) = false:=by rfl) (ha : a.put N undef = a':=by simp only [Act.put,sa_,sb_,sc_,a_0,a_1];rfl) : b_D P md ops Q S ds (fuel + 1) l a w:=y_t l' hi hN (s_I HT.out hc) hQ (Or.inr ⟨hg,rfl⟩) ha h
theorem pt_ {oi : Oper} {fuel : Nat} {l : Array Bool} {a a' : Act} {w : World} {v : Value} (i : Nat) (N : Option Tmp) (l' : Array Bool) (HT : a_g (rtab md ops = T)) (h : b_D P md ops Q S ds fuel l' a' w) (hi : ops[i]? = some oi:=by rfl) (hN : oi.dst = N:=by rfl) (hc : anyT T l.toList l'.toList i = true:=by kernel_rfl) (hQ : ∀ c a w,Q (.panic c) (a.put oi.dst v) w → Q (.panic c) a w:=by exact fun _ _ _ h => h) (hg : Region.wanted oi (yielded ops a.tmps) = true:=by rfl) (hv : ∀ w',(execOp a.eval oi).run P w' = .ok (.value v) w':=by intro w';go_simp;with_reducible rfl) (ha : a.put N v = a':=by simp only [Act.put,sa_,sb_,sc_,a_0,a_1];rfl) : b_D P md ops Q S ds (fuel + 1) l a w:=y_t l' hi hN (s_I HT.out hc) hQ (Or.inl ⟨hg,hv⟩) ha h
end
abbrev Z0_ : Array Bool:=#[F_,F_,F_,F_,F_,F_,F_,F_,F_,F_,F_,F_,F_,F_,F_,F_,F_,F_,F_,F_,F_,F_,F_,F_,F_,F_,F_,F_,F_,F_,F_,F_,F_,F_,F_,F_,F_]
abbrev Z1_ : Array Bool:=#[F_,F_,F_,F_,F_,F_,F_,F_,F_,F_,F_,F_,F_,F_,F_,F_,F_,F_,F_,F_,F_,F_,F_,F_,F_,F_]
abbrev Z2_ : Array Bool:=#[F_,F_,F_,F_,F_,F_,F_,F_,F_,F_,F_,F_,F_,F_,F_,F_,F_,F_,F_]
abbrev Z3_ : Array Bool:=#[F_,F_,F_,F_,F_,F_,F_,F_,F_]
abbrev Z4_ : Array Bool:=#[T_,F_,F_,F_,F_,F_,F_,F_,F_,F_,F_,F_,F_,F_,F_,F_,F_,F_,F_,F_,F_,F_,F_,F_,F_,F_,F_,F_,F_,F_,F_,F_,F_,F_,F_,F_,F_]
abbrev Z5_ : Array Bool:=#[T_,F_,F_,F_,F_,F_,F_,F_,F_,F_,F_,F_,F_,F_,F_,F_,F_,F_,F_,F_,F_,F_,F_,F_,F_,F_]
abbrev Z6_ : Array Bool:=#[T_,F_,F_,F_,F_,F_,F_,F_,F_,F_,F_,F_,F_,F_,F_,F_,F_,F_,F_]
abbrev Z7_ : Array Bool:=#[T_,F_,F_,F_,F_,F_,F_,F_,F_]
abbrev Z8_ : Array Bool:=#[T_,F_,T_,F_,F_,F_,F_,F_,F_]
abbrev Z9_ : Array Bool:=#[T_,F_,T_,F_,T_,F_,F_,F_,F_]
abbrev Z10_ : Array Bool:=#[T_,T_,F_,F_,F_,F_,F_,F_,F_,F_,F_,F_,F_,F_,F_,F_,F_,F_,F_,F_,F_,F_,F_,F_,F_,F_,F_,F_,F_,F_,F_,F_,F_,F_,F_,F_,F_]
abbrev Z11_ : Array Bool:=#[T_,T_,F_,F_,F_,F_,F_,F_,F_,F_,F_,F_,F_,F_,F_,F_,F_,F_,F_,F_,F_,F_,F_,F_,F_,F_]
abbrev Z12_ : Array Bool:=#[T_,T_,F_,F_,F_,F_,F_,F_,F_,F_,F_,F_,F_,F_,F_,F_,F_,F_,F_]
abbrev Z13_ : Array Bool:=#[T_,T_,T_,F_,F_,F_,F_,F_,F_,F_,F_,F_,F_,F_,F_,F_,F_,F_,F_,F_,F_,F_,F_,F_,F_,F_,F_,F_,F_,F_,F_,F_,F_,F_,F_,F_,F_]
abbrev Z14_ : Array Bool:=#[T_,T_,T_,F_,F_,F_,F_,F_,F_,F_,F_,F_,F_,F_,F_,F_,F_,F_,F_,F_,F_,F_,F_,F_,F_,F_]
abbrev Z15_ : Array Bool:=#[T_,T_,T_,F_,F_,F_,F_,F_,F_,F_,F_,F_,F_,F_,F_,F_,F_,F_,F_]
abbrev Z16_ : Array Bool:=#[T_,T_,T_,F_,T_,F_,F_,F_,F_]
abbrev Z17_ : Array Bool:=#[T_,T_,T_,T_,F_,F_,F_,F_,F_,F_,F_,F_,F_,F_,F_,F_,F_,F_,F_,F_,F_,F_,F_,F_,F_,F_,F_,F_,F_,F_,F_,F_,F_,F_,F_,F_,F_]
abbrev Z18_ : Array Bool:=#[T_,T_,T_,T_,F_,F_,F_,F_,F_,F_,F_,F_,F_,F_,F_,F_,F_,F_,F_,F_,F_,F_,F_,F_,F_,F_]
abbrev Z19_ : Array Bool:=#[T_,T_,T_,T_,F_,F_,F_,F_,F_,F_,F_,F_,F_,F_,F_,F_,F_,F_,F_]
abbrev Z20_ : Array Bool:=#[T_,T_,T_,T_,T_,F_,F_,F_,F_,F_,F_,F_,F_,F_,F_,F_,F_,F_,F_,F_,F_,F_,F_,F_,F_,F_,F_,F_,F_,F_,F_,F_,F_,F_,F_,F_,F_]
abbrev Z21_ : Array Bool:=#[T_,T_,T_,T_,T_,F_,F_,F_,F_,F_,F_,F_,F_,F_,F_,F_,F_,F_,F_,F_,F_,F_,F_,F_,F_,F_]
abbrev Z22_ : Array Bool:=#[T_,T_,T_,T_,T_,F_,F_,F_,F_,F_,F_,F_,F_,F_,F_,F_,F_,F_,F_]
abbrev Z23_ : Array Bool:=#[T_,T_,T_,T_,T_,F_,F_,F_,F_]
abbrev Z24_ : Array Bool:=#[T_,T_,T_,T_,T_,F_,T_,F_,F_,F_,F_,F_,F_,F_,F_,F_,F_,F_,F_,F_,F_,F_,F_,F_,F_,F_]
abbrev Z25_ : Array Bool:=#[T_,T_,T_,T_,T_,T_,F_,F_,F_,F_,F_,F_,F_,F_,F_,F_,F_,F_,F_,F_,F_,F_,F_,F_,F_,F_,F_,F_,F_,F_,F_,F_,F_,F_,F_,F_,F_]
abbrev Z26_ : Array Bool:=#[T_,T_,T_,T_,T_,T_,F_,F_,F_,F_,F_,F_,F_,F_,F_,F_,F_,F_,F_]
abbrev Z27_ : Array Bool:=#[T_,T_,T_,T_,T_,T_,F_,F_,F_]
abbrev Z28_ : Array Bool:=#[T_,T_,T_,T_,T_,T_,T_,F_,F_,F_,F_,F_,F_,F_,F_,F_,F_,F_,F_,F_,F_,F_,F_,F_,F_,F_,F_,F_,F_,F_,F_,F_,F_,F_,F_,F_,F_]
abbrev Z29_ : Array Bool:=#[T_,T_,T_,T_,T_,T_,T_,F_,F_,F_,F_,F_,F_,F_,F_,F_,F_,F_,F_,F_,F_,F_,F_,F_,F_,F_]
abbrev Z30_ : Array Bool:=#[T_,T_,T_,T_,T_,T_,T_,F_,F_,F_,F_,F_,F_,F_,F_,F_,F_,F_,F_]
abbrev Z31_ : Array Bool:=#[T_,T_,T_,T_,T_,T_,T_,F_,F_]
abbrev Z32_ : Array Bool:=#[T_,T_,T_,T_,T_,T_,T_,T_,F_,F_,F_,F_,F_,F_,F_,F_,F_,F_,F_,F_,F_,F_,F_,F_,F_,F_,F_,F_,F_,F_,F_,F_,F_,F_,F_,F_,F_]
abbrev Z33_ : Array Bool:=#[T_,T_,T_,T_,T_,T_,T_,T_,F_,F_,F_,F_,F_,F_,F_,F_,F_,F_,F_,F_,F_,F_,F_,F_,F_,F_]
abbrev Z34_ : Array Bool:=#[T_,T_,T_,T_,T_,T_,T_,T_,F_,F_,F_,F_,F_,F_,F_,F_,F_,F_,F_]
abbrev Z35_ : Array Bool:=#[T_,T_,T_,T_,T_,T_,T_,T_,F_,T_,F_,F_,F_,F_,F_,F_,F_,F_,F_,F_,F_,F_,F_,F_,F_,F_,F_,F_,F_,F_,F_,F_,F_,F_,F_,F_,F_]
abbrev Z36_ : Array Bool:=#[T_,T_,T_,T_,T_,T_,T_,T_,F_,T_,T_,F_,F_,F_,F_,F_,F_,F_,F_,F_,F_,F_,F_,F_,F_,F_,F_,F_,F_,F_,F_,F_,F_,F_,F_,F_,F_]
abbrev Z37_ : Array Bool:=#[T_,T_,T_,T_,T_,T_,T_,T_,F_,T_,T_,F_,F_,F_,T_,F_,F_,F_,F_,F_,F_,F_,F_,F_,F_,F_,F_,F_,F_,F_,F_,F_,F_,F_,F_,F_,F_]
abbrev Z38_ : Array Bool:=#[T_,T_,T_,T_,T_,T_,T_,T_,F_]
abbrev Z39_ : Array Bool:=#[T_,T_,T_,T_,T_,T_,T_,T_,T_,F_,F_,F_,F_,F_,F_,F_,F_,F_,F_,F_,F_,F_,F_,F_,F_,F_,F_,F_,F_,F_,F_,F_,F_,F_,F_,F_,F_]
abbrev Z40_ : Array Bool:=#[T_,T_,T_,T_,T_,T_,T_,T_,T_,F_,F_,F_,F_,F_,F_,F_,F_,F_,F_,F_,F_,F_,F_,F_,F_,F_]
abbrev Z41_ : Array Bool:=#[T_,T_,T_,T_,T_,T_,T_,T_,T_,F_,F_,F_,F_,F_,F_,F_,F_,F_,F_]
abbrev Z42_ : Array Bool:=#[T_,T_,T_,T_,T_,T_,T_,T_,T_,T_,F_,F_,F_,F_,F_,F_,F_,F_,F_,F_,F_,F_,F_,F_,F_,F_,F_,F_,F_,F_,F_,F_,F_,F_,F_,F_,F_]
abbrev Z43_ : Array Bool:=#[T_,T_,T_,T_,T_,T_,T_,T_,T_,T_,F_,F_,F_,F_,F_,F_,F_,F_,F_,F_,F_,F_,F_,F_,F_,F_]
abbrev Z44_ : Array Bool:=#[T_,T_,T_,T_,T_,T_,T_,T_,T_,T_,F_,F_,F_,F_,F_,F_,F_,F_,F_]
abbrev Z45_ : Array Bool:=#[T_,T_,T_,T_,T_,T_,T_,T_,T_,T_,T_,F_,F_,F_,F_,F_,F_,F_,F_,F_,F_,F_,F_,F_,F_,F_,F_,F_,F_,F_,F_,F_,F_,F_,F_,F_,F_]
abbrev Z46_ : Array Bool:=#[T_,T_,T_,T_,T_,T_,T_,T_,T_,T_,T_,F_,F_,F_,F_,F_,F_,F_,F_,F_,F_,F_,F_,F_,F_,F_]
abbrev Z47_ : Array Bool:=#[T_,T_,T_,T_,T_,T_,T_,T_,T_,T_,T_,F_,F_,F_,F_,F_,F_,F_,F_]
abbrev Z48_ : Array Bool:=#[T_,T_,T_,T_,T_,T_,T_,T_,T_,T_,T_,F_,F_,F_,T_,F_,F_,F_,F_,F_,F_,F_,F_,F_,F_,F_,F_,F_,F_,F_,F_,F_,F_,F_,F_,F_,F_]
abbrev Z49_ : Array Bool:=#[T_,T_,T_,T_,T_,T_,T_,T_,T_,T_,T_,T_,F_,F_,F_,F_,F_,F_,F_,F_,F_,F_,F_,F_,F_,F_,F_,F_,F_,F_,F_,F_,F_,F_,F_,F_,F_]
abbrev Z50_ : Array Bool:=#[T_,T_,T_,T_,T_,T_,T_,T_,T_,T_,T_,T_,F_,F_,F_,F_,F_,F_,F_,F_,F_,F_,F_,F_,F_,F_]
abbrev Z51_ : Array Bool:=#[T_,T_,T_,T_,T_,T_,T_,T_,T_,T_,T_,T_,F_,F_,F_,F_,F_,F_,F_]
abbrev Z52_ : Array Bool:=#[T_,T_,T_,T_,T_,T_,T_,T_,T_,T_,T_,T_,F_,F_,T_,F_,F_,F_,F_,F_,F_,F_,F_,F_,F_,F_,F_,F_,F_,F_,F_,F_,F_,F_,F_,F_,F_]
abbrev Z53_ : Array Bool:=#[T_,T_,T_,T_,T_,T_,T_,T_,T_,T_,T_,T_,T_,F_,F_,F_,F_,F_,F_,F_,F_,F_,F_,F_,F_,F_,F_,F_,F_,F_,F_,F_,F_,F_,F_,F_,F_]
abbrev Z54_ : Array Bool:=#[T_,T_,T_,T_,T_,T_,T_,T_,T_,T_,T_,T_,T_,F_,F_,F_,F_,F_,F_,F_,F_,F_,F_,F_,F_,F_]
abbrev Z55_ : Array Bool:=#[T_,T_,T_,T_,T_,T_,T_,T_,T_,T_,T_,T_,T_,F_,F_,F_,F_,F_,F_]
abbrev Z56_ : Array Bool:=#[T_,T_,T_,T_,T_,T_,T_,T_,T_,T_,T_,T_,T_,F_,T_,F_,F_,F_,F_,F_,F_,F_,F_,F_,F_,F_,F_,F_,F_,F_,F_,F_,F_,F_,F_,F_,F_]
abbrev Z57_ : Array Bool:=#[T_,T_,T_,T_,T_,T_,T_,T_,T_,T_,T_,T_,T_,T_,F_,F_,F_,F_,F_,F_,F_,F_,F_,F_,F_,F_,F_,F_,F_,F_,F_,F_,F_,F_,F_,F_,F_]
abbrev Z58_ : Array Bool:=#[T_,T_,T_,T_,T_,T_,T_,T_,T_,T_,T_,T_,T_,T_,F_,F_,F_,F_,F_,F_,F_,F_,F_,F_,F_,F_]
abbrev Z59_ : Array Bool:=#[T_,T_,T_,T_,T_,T_,T_,T_,T_,T_,T_,T_,T_,T_,F_,F_,F_,F_,F_]
abbrev Z60_ : Array Bool:=#[T_,T_,T_,T_,T_,T_,T_,T_,T_,T_,T_,T_,T_,T_,T_,F_,F_,F_,F_,F_,F_,F_,F_,F_,F_,F_,F_,F_,F_,F_,F_,F_,F_,F_,F_,F_,F_]
abbrev Z61_ : Array Bool:=#[T_,T_,T_,T_,T_,T_,T_,T_,T_,T_,T_,T_,T_,T_,T_,F_,F_,F_,F_,F_,F_,F_,F_,F_,F_,F_]
abbrev Z62_ : Array Bool:=#[T_,T_,T_,T_,T_,T_,T_,T_,T_,T_,T_,T_,T_,T_,T_,F_,F_,F_,F_]
abbrev Z63_ : Array Bool:=#[T_,T_,T_,T_,T_,T_,T_,T_,T_,T_,T_,T_,T_,T_,T_,F_,T_,F_,F_,F_,F_,F_,F_,F_,F_,F_]
abbrev Z64_ : Array Bool:=#[T_,T_,T_,T_,T_,T_,T_,T_,T_,T_,T_,T_,T_,T_,T_,F_,T_,T_,F_,F_,F_,F_,F_,F_,F_,F_]
abbrev Z65_ : Array Bool:=#[T_,T_,T_,T_,T_,T_,T_,T_,T_,T_,T_,T_,T_,T_,T_,F_,T_,T_,F_,F_,F_,T_,F_,F_,F_,F_]
abbrev Z66_ : Array Bool:=#[T_,T_,T_,T_,T_,T_,T_,T_,T_,T_,T_,T_,T_,T_,T_,T_,F_,F_,F_,F_,F_,F_,F_,F_,F_,F_,F_,F_,F_,F_,F_,F_,F_,F_,F_,F_,F_]
abbrev Z67_ : Array Bool:=#[T_,T_,T_,T_,T_,T_,T_,T_,T_,T_,T_,T_,T_,T_,T_,T_,F_,F_,F_,F_,F_,F_,F_,F_,F_,F_]
abbrev Z68_ : Array Bool:=#[T_,T_,T_,T_,T_,T_,T_,T_,T_,T_,T_,T_,T_,T_,T_,T_,F_,F_,F_]
abbrev Z69_ : Array Bool:=#[T_,T_,T_,T_,T_,T_,T_,T_,T_,T_,T_,T_,T_,T_,T_,T_,T_,F_,F_,F_,F_,F_,F_,F_,F_,F_,F_,F_,F_,F_,F_,F_,F_,F_,F_,F_,F_]
abbrev Z70_ : Array Bool:=#[T_,T_,T_,T_,T_,T_,T_,T_,T_,T_,T_,T_,T_,T_,T_,T_,T_,F_,F_,F_,F_,F_,F_,F_,F_,F_]
abbrev Z71_ : Array Bool:=#[T_,T_,T_,T_,T_,T_,T_,T_,T_,T_,T_,T_,T_,T_,T_,T_,T_,F_,F_]
abbrev Z72_ : Array Bool:=#[T_,T_,T_,T_,T_,T_,T_,T_,T_,T_,T_,T_,T_,T_,T_,T_,T_,T_,F_,F_,F_,F_,F_,F_,F_,F_,F_,F_,F_,F_,F_,F_,F_,F_,F_,F_,F_]
abbrev Z73_ : Array Bool:=#[T_,T_,T_,T_,T_,T_,T_,T_,T_,T_,T_,T_,T_,T_,T_,T_,T_,T_,F_,F_,F_,F_,F_,F_,F_,F_]
abbrev Z74_ : Array Bool:=#[T_,T_,T_,T_,T_,T_,T_,T_,T_,T_,T_,T_,T_,T_,T_,T_,T_,T_,F_,F_,F_,T_,F_,F_,F_,F_]
abbrev Z75_ : Array Bool:=#[T_,T_,T_,T_,T_,T_,T_,T_,T_,T_,T_,T_,T_,T_,T_,T_,T_,T_,F_]
abbrev Z76_ : Array Bool:=#[T_,T_,T_,T_,T_,T_,T_,T_,T_,T_,T_,T_,T_,T_,T_,T_,T_,T_,T_,F_,F_,F_,F_,F_,F_,F_,F_,F_,F_,F_,F_,F_,F_,F_,F_,F_,F_]
abbrev Z77_ : Array Bool:=#[T_,T_,T_,T_,T_,T_,T_,T_,T_,T_,T_,T_,T_,T_,T_,T_,T_,T_,T_,F_,F_,F_,F_,F_,F_,F_]
abbrev Z78_ : Array Bool:=#[T_,T_,T_,T_,T_,T_,T_,T_,T_,T_,T_,T_,T_,T_,T_,T_,T_,T_,T_,F_,F_,T_,F_,F_,F_,F_]
abbrev Z79_ : Array Bool:=#[T_,T_,T_,T_,T_,T_,T_,T_,T_,T_,T_,T_,T_,T_,T_,T_,T_,T_,T_,T_,F_,F_,F_,F_,F_,F_,F_,F_,F_,F_,F_,F_,F_,F_,F_,F_,F_]
abbrev Z80_ : Array Bool:=#[T_,T_,T_,T_,T_,T_,T_,T_,T_,T_,T_,T_,T_,T_,T_,T_,T_,T_,T_,T_,F_,F_,F_,F_,F_,F_]
abbrev Z81_ : Array Bool:=#[T_,T_,T_,T_,T_,T_,T_,T_,T_,T_,T_,T_,T_,T_,T_,T_,T_,T_,T_,T_,F_,T_,F_,F_,F_,F_]
abbrev Z82_ : Array Bool:=#[T_,T_,T_,T_,T_,T_,T_,T_,T_,T_,T_,T_,T_,T_,T_,T_,T_,T_,T_,T_,T_,F_,F_,F_,F_,F_,F_,F_,F_,F_,F_,F_,F_,F_,F_,F_,F_]
abbrev Z83_ : Array Bool:=#[T_,T_,T_,T_,T_,T_,T_,T_,T_,T_,T_,T_,T_,T_,T_,T_,T_,T_,T_,T_,T_,F_,F_,F_,F_,F_]
abbrev Z84_ : Array Bool:=#[T_,T_,T_,T_,T_,T_,T_,T_,T_,T_,T_,T_,T_,T_,T_,T_,T_,T_,T_,T_,T_,F_,F_,F_,T_,F_,F_,F_,F_,F_,F_,F_,F_,F_,F_,F_,F_]
abbrev Z85_ : Array Bool:=#[T_,T_,T_,T_,T_,T_,T_,T_,T_,T_,T_,T_,T_,T_,T_,T_,T_,T_,T_,T_,T_,T_,F_,F_,F_,F_,F_,F_,F_,F_,F_,F_,F_,F_,F_,F_,F_]
abbrev Z86_ : Array Bool:=#[T_,T_,T_,T_,T_,T_,T_,T_,T_,T_,T_,T_,T_,T_,T_,T_,T_,T_,T_,T_,T_,T_,F_,F_,F_,F_]
abbrev Z87_ : Array Bool:=#[T_,T_,T_,T_,T_,T_,T_,T_,T_,T_,T_,T_,T_,T_,T_,T_,T_,T_,T_,T_,T_,T_,F_,F_,T_,F_,F_,F_,F_,F_,F_,F_,F_,F_,F_,F_,F_]
abbrev Z88_ : Array Bool:=#[T_,T_,T_,T_,T_,T_,T_,T_,T_,T_,T_,T_,T_,T_,T_,T_,T_,T_,T_,T_,T_,T_,T_,F_,F_,F_,F_,F_,F_,F_,F_,F_,F_,F_,F_,F_,F_]
abbrev Z89_ : Array Bool:=#[T_,T_,T_,T_,T_,T_,T_,T_,T_,T_,T_,T_,T_,T_,T_,T_,T_,T_,T_,T_,T_,T_,T_,F_,F_,F_]
abbrev Z90_ : Array Bool:=#[T_,T_,T_,T_,T_,T_,T_,T_,T_,T_,T_,T_,T_,T_,T_,T_,T_,T_,T_,T_,T_,T_,T_,F_,T_,F_,F_,F_,F_,F_,F_,F_,F_,F_,F_,F_,F_]
abbrev Z91_ : Array Bool:=#[T_,T_,T_,T_,T_,T_,T_,T_,T_,T_,T_,T_,T_,T_,T_,T_,T_,T_,T_,T_,T_,T_,T_,F_,T_,T_,F_,F_,F_,F_,F_,F_,F_,F_,F_,F_,F_]
abbrev Z92_ : Array Bool:=#[T_,T_,T_,T_,T_,T_,T_,T_,T_,T_,T_,T_,T_,T_,T_,T_,T_,T_,T_,T_,T_,T_,T_,T_,F_,F_,F_,F_,F_,F_,F_,F_,F_,F_,F_,F_,F_]
abbrev Z93_ : Array Bool:=#[T_,T_,T_,T_,T_,T_,T_,T_,T_,T_,T_,T_,T_,T_,T_,T_,T_,T_,T_,T_,T_,T_,T_,T_,F_,F_]
abbrev Z94_ : Array Bool:=#[T_,T_,T_,T_,T_,T_,T_,T_,T_,T_,T_,T_,T_,T_,T_,T_,T_,T_,T_,T_,T_,T_,T_,T_,T_,F_,F_,F_,F_,F_,F_,F_,F_,F_,F_,F_,F_]
abbrev Z95_ : Array Bool:=#[T_,T_,T_,T_,T_,T_,T_,T_,T_,T_,T_,T_,T_,T_,T_,T_,T_,T_,T_,T_,T_,T_,T_,T_,T_,F_]
abbrev Z96_ : Array Bool:=#[T_,T_,T_,T_,T_,T_,T_,T_,T_,T_,T_,T_,T_,T_,T_,T_,T_,T_,T_,T_,T_,T_,T_,T_,T_,T_,F_,F_,F_,F_,F_,F_,F_,F_,F_,F_,F_]
abbrev Z97_ : Array Bool:=#[T_,T_,T_,T_,T_,T_,T_,T_,T_,T_,T_,T_,T_,T_,T_,T_,T_,T_,T_,T_,T_,T_,T_,T_,T_,T_,T_,F_,F_,F_,F_,F_,F_,F_,F_,F_,F_]
abbrev Z98_ : Array Bool:=#[T_,T_,T_,T_,T_,T_,T_,T_,T_,T_,T_,T_,T_,T_,T_,T_,T_,T_,T_,T_,T_,T_,T_,T_,T_,T_,T_,T_,F_,F_,F_,F_,F_,F_,F_,F_,F_]
abbrev Z99_ : Array Bool:=#[T_,T_,T_,T_,T_,T_,T_,T_,T_,T_,T_,T_,T_,T_,T_,T_,T_,T_,T_,T_,T_,T_,T_,T_,T_,T_,T_,T_,T_,F_,F_,F_,F_,F_,F_,F_,F_]
abbrev l_H : Array Bool:=#[T_,T_,T_,T_,T_,T_,T_,T_,T_,T_,T_,T_,T_,T_,T_,T_,T_,T_,T_,T_,T_,T_,T_,T_,T_,T_,T_,T_,T_,T_,F_,F_,F_,F_,F_,F_,F_]
abbrev r_R : Array Bool:=#[T_,T_,T_,T_,T_,T_,T_,T_,T_,T_,T_,T_,T_,T_,T_,T_,T_,T_,T_,T_,T_,T_,T_,T_,T_,T_,T_,T_,T_,T_,F_,T_,F_,F_,F_,F_,F_]
abbrev r_S : Array Bool:=#[T_,T_,T_,T_,T_,T_,T_,T_,T_,T_,T_,T_,T_,T_,T_,T_,T_,T_,T_,T_,T_,T_,T_,T_,T_,T_,T_,T_,T_,T_,F_,T_,F_,T_,F_,F_,F_]
abbrev r_T : Array Bool:=#[T_,T_,T_,T_,T_,T_,T_,T_,T_,T_,T_,T_,T_,T_,T_,T_,T_,T_,T_,T_,T_,T_,T_,T_,T_,T_,T_,T_,T_,T_,T_,F_,F_,F_,F_,F_,F_]
abbrev r_U : Array Bool:=#[T_,T_,T_,T_,T_,T_,T_,T_,T_,T_,T_,T_,T_,T_,T_,T_,T_,T_,T_,T_,T_,T_,T_,T_,T_,T_,T_,T_,T_,T_,T_,T_,F_,F_,F_,F_,F_]
abbrev r_V : Array Bool:=#[T_,T_,T_,T_,T_,T_,T_,T_,T_,T_,T_,T_,T_,T_,T_,T_,T_,T_,T_,T_,T_,T_,T_,T_,T_,T_,T_,T_,T_,T_,T_,T_,F_,T_,F_,F_,F_]
abbrev r_W : Array Bool:=#[T_,T_,T_,T_,T_,T_,T_,T_,T_,T_,T_,T_,T_,T_,T_,T_,T_,T_,T_,T_,T_,T_,T_,T_,T_,T_,T_,T_,T_,T_,T_,T_,F_,T_,T_,F_,F_]
abbrev r_X : Array Bool:=#[T_,T_,T_,T_,T_,T_,T_,T_,T_,T_,T_,T_,T_,T_,T_,T_,T_,T_,T_,T_,T_,T_,T_,T_,T_,T_,T_,T_,T_,T_,T_,T_,T_,F_,F_,F_,F_]
abbrev r_Y : Array Bool:=#[T_,T_,T_,T_,T_,T_,T_,T_,T_,T_,T_,T_,T_,T_,T_,T_,T_,T_,T_,T_,T_,T_,T_,T_,T_,T_,T_,T_,T_,T_,T_,T_,T_,T_,F_,F_,F_]
abbrev l_I : Array Bool:=#[T_,T_,T_,T_,T_,T_,T_,T_,T_,T_,T_,T_,T_,T_,T_,T_,T_,T_,T_,T_,T_,T_,T_,T_,T_,T_,T_,T_,T_,T_,T_,T_,T_,T_,T_,F_,F_]
abbrev l_J : Array Bool:=#[T_,T_,T_,T_,T_,T_,T_,T_,T_,T_,T_,T_,T_,T_,T_,T_,T_,T_,T_,T_,T_,T_,T_,T_,T_,T_,T_,T_,T_,T_,T_,T_,T_,T_,T_,T_,F_]
abbrev l_K : Array Bool:=#[T_,T_,T_,T_,T_,T_,T_,T_,T_,T_,T_,T_,T_,T_,T_,T_,T_,T_,T_,T_,T_,T_,T_,T_,T_,T_,T_,T_,T_,T_,T_,T_,T_,T_,T_,T_,T_]
abbrev p_o : Array Bool:=#[T_,T_,T_,T_,T_,T_,T_,T_,T_,T_,T_,T_,T_,T_,T_,T_,T_,T_,T_,T_,T_,T_,T_,T_,T_,T_]
abbrev t_h : Array Bool:=#[T_,T_,T_,T_,T_,T_,T_,T_,T_,T_,T_,T_,T_,T_,T_,T_,T_,T_,T_]
abbrev l_L : Array Bool:=#[T_,T_,T_,T_,T_,T_,T_,T_,T_]
end Go.Proofs.YtgglkfilkagblaaDoor
end
section
namespace Go.Proofs.YtgglkfilkagblaaDoor.Q
open Go.RowKit Go.Proofs.YtgglkfilkagblaaDoorW.PrintWords Go.Proofs.YtgglkfilkagblaaDoorW.PrintLast Go.Proofs.YtgglkfilkagblaaDoorW.PrintMore
set_option linter.unusedVariables false
set_option linter.unusedSimpArgs false
def errW : Option Int → Value
 | none => .nilIface
 | some c => .iface 0 (.int .i64 c)
theorem a_u : errW none = .nilIface:=rfl
theorem a_v (c : Int) : errW (some c) = .iface 0 (.int .i64 c):=rfl
theorem info3 : (Tryd.prog.info? 3).map (fun i => (i.zero,i.size,i.bytes)) = some (some (.int .i64 0),1,8):=by kernel_rfl
theorem l_X : (Tryd.prog.info? 24).map (fun i => (i.zero,i.size,i.bytes)) = some (some (.agg #[(.int .i64 0),(.slice none 0 0)]),2,32):=by kernel_rfl
theorem y_l : (Tryd.prog.info? 49).map (fun i => (i.zero,i.size,i.bytes)) = some (some (.agg #[(.int .i64 0),(.int .i64 0)]),2,16):=by kernel_rfl
structure S33 where
 f0 : Int
 f1 : Int
 f2 : Int
 f3 : Int
 f4 : Int
 f5 : Bool
 f6 : Bool
 f7 : Int
 f8 : Int
 f9 : Int
 f10 : Int
def z33 : S33:=⟨(0 : Int),(0 : Int),(0 : Int),(0 : Int),(0 : Int),false,false,(0 : Int),(0 : Int),(0 : Int),(0 : Int)⟩
def k33 : Kd S33:=Kd.iso (Kd.pair (Kd.int .i64) (Kd.pair (Kd.int .i64) (Kd.pair (Kd.int .i64) (Kd.pair (Kd.int .i64) (Kd.pair (Kd.int .i64) (Kd.pair Kd.bool (Kd.pair Kd.bool (Kd.pair (Kd.int .u32) (Kd.pair (Kd.int .i64) (Kd.pair (Kd.int .i64) (Kd.int .i64))))))))))) (fun x : S33 => (x.f0,x.f1,x.f2,x.f3,x.f4,x.f5,x.f6,x.f7,x.f8,x.f9,x.f10))
theorem s_p {w : World} {x : S33} {cs : List Value} (h : k33.K w x cs) : cs = [.int .i64 x.f0,.int .i64 x.f1,.int .i64 x.f2,.int .i64 x.f3,.int .i64 x.f4,.bool x.f5,.bool x.f6,.int .u32 x.f7,.int .i64 x.f8,.int .i64 x.f9,.int .i64 x.f10]:=by
 obtain ⟨_,_,rfl,rfl,⟨_,_,rfl,rfl,⟨_,_,rfl,rfl,⟨_,_,rfl,rfl,⟨_,_,rfl,rfl,⟨_,_,rfl,rfl,⟨_,_,rfl,rfl,⟨_,_,rfl,rfl,⟨_,_,rfl,rfl,⟨_,_,rfl,rfl,rfl⟩⟩⟩⟩⟩⟩⟩⟩⟩⟩:=h
 exact rfl
theorem r_q (w : World) (base : Nat) (ok : Nat → Prop) (x : S33)  : k33.M w base ok x [.int .i64 x.f0,.int .i64 x.f1,.int .i64 x.f2,.int .i64 x.f3,.int .i64 x.f4,.bool x.f5,.bool x.f6,.int .u32 x.f7,.int .i64 x.f8,.int .i64 x.f9,.int .i64 x.f10]:=⟨[.int .i64 x.f0],[.int .i64 x.f1,.int .i64 x.f2,.int .i64 x.f3,.int .i64 x.f4,.bool x.f5,.bool x.f6,.int .u32 x.f7,.int .i64 x.f8,.int .i64 x.f9,.int .i64 x.f10],rfl,rfl,⟨[.int .i64 x.f1],[.int .i64 x.f2,.int .i64 x.f3,.int .i64 x.f4,.bool x.f5,.bool x.f6,.int .u32 x.f7,.int .i64 x.f8,.int .i64 x.f9,.int .i64 x.f10],rfl,rfl,⟨[.int .i64 x.f2],[.int .i64 x.f3,.int .i64 x.f4,.bool x.f5,.bool x.f6,.int .u32 x.f7,.int .i64 x.f8,.int .i64 x.f9,.int .i64 x.f10],rfl,rfl,⟨[.int .i64 x.f3],[.int .i64 x.f4,.bool x.f5,.bool x.f6,.int .u32 x.f7,.int .i64 x.f8,.int .i64 x.f9,.int .i64 x.f10],rfl,rfl,⟨[.int .i64 x.f4],[.bool x.f5,.bool x.f6,.int .u32 x.f7,.int .i64 x.f8,.int .i64 x.f9,.int .i64 x.f10],rfl,rfl,⟨[.bool x.f5],[.bool x.f6,.int .u32 x.f7,.int .i64 x.f8,.int .i64 x.f9,.int .i64 x.f10],rfl,rfl,⟨[.bool x.f6],[.int .u32 x.f7,.int .i64 x.f8,.int .i64 x.f9,.int .i64 x.f10],rfl,rfl,⟨[.int .u32 x.f7],[.int .i64 x.f8,.int .i64 x.f9,.int .i64 x.f10],rfl,rfl,⟨[.int .i64 x.f8],[.int .i64 x.f9,.int .i64 x.f10],rfl,rfl,⟨[.int .i64 x.f9],[.int .i64 x.f10],rfl,rfl,rfl⟩⟩⟩⟩⟩⟩⟩⟩⟩⟩
def a_a (xs : List S33) (i : Int) : S33:=xs.getD i.toNat z33
theorem c_e {w : World} {A : Option Addr} {n : Nat} {xs : List S33} (h : Kd.C k33 w A n xs) (i : Int) (h0 : 0 ≤ i) (h1 : i < n) : ∃ ad , A = some ad ∧ w.cell? (ad.add (i.toNat * 11)) = some (.int .i64 (a_a xs i).f0) ∧ w.cell? ⟨(ad.add (i.toNat * 11)).block,(ad.add (i.toNat * 11)).off + 1,none⟩ = some (.int .i64 (a_a xs i).f1) ∧ w.cell? ⟨(ad.add (i.toNat * 11)).block,(ad.add (i.toNat * 11)).off + 2,none⟩ = some (.int .i64 (a_a xs i).f2) ∧ w.cell? ⟨(ad.add (i.toNat * 11)).block,(ad.add (i.toNat * 11)).off + 3,none⟩ = some (.int .i64 (a_a xs i).f3) ∧ w.cell? ⟨(ad.add (i.toNat * 11)).block,(ad.add (i.toNat * 11)).off + 4,none⟩ = some (.int .i64 (a_a xs i).f4) ∧ w.cell? ⟨(ad.add (i.toNat * 11)).block,(ad.add (i.toNat * 11)).off + 5,none⟩ = some (.bool (a_a xs i).f5) ∧ w.cell? ⟨(ad.add (i.toNat * 11)).block,(ad.add (i.toNat * 11)).off + 6,none⟩ = some (.bool (a_a xs i).f6) ∧ w.cell? ⟨(ad.add (i.toNat * 11)).block,(ad.add (i.toNat * 11)).off + 7,none⟩ = some (.int .u32 (a_a xs i).f7) ∧ w.cell? ⟨(ad.add (i.toNat * 11)).block,(ad.add (i.toNat * 11)).off + 8,none⟩ = some (.int .i64 (a_a xs i).f8) ∧ w.cell? ⟨(ad.add (i.toNat * 11)).block,(ad.add (i.toNat * 11)).off + 9,none⟩ = some (.int .i64 (a_a xs i).f9) ∧ w.cell? ⟨(ad.add (i.toNat * 11)).block,(ad.add (i.toNat * 11)).off + 10,none⟩ = some (.int .i64 (a_a xs i).f10):=by
 obtain ⟨ad,c,e,_,hK,hc0⟩:=Kd.o_Q h z33 i h0 h1
 have hc : ∀ j u,c[j]? = some u → w.cell? (ad.add (i.toNat * 11 + j)) = some u:=hc0
 obtain rfl:=s_p hK
 exact ⟨ad,e,hc 0 _ rfl,by rw [← d_m _ _ 1 (by omega)];exact hc 1 _ rfl,by rw [← d_m _ _ 2 (by omega)];exact hc 2 _ rfl,by rw [← d_m _ _ 3 (by omega)];exact hc 3 _ rfl,by rw [← d_m _ _ 4 (by omega)];exact hc 4 _ rfl,by rw [← d_m _ _ 5 (by omega)];exact hc 5 _ rfl,by rw [← d_m _ _ 6 (by omega)];exact hc 6 _ rfl,by rw [← d_m _ _ 7 (by omega)];exact hc 7 _ rfl,by rw [← d_m _ _ 8 (by omega)];exact hc 8 _ rfl,by rw [← d_m _ _ 9 (by omega)];exact hc 9 _ rfl,by rw [← d_m _ _ 10 (by omega)];exact hc 10 _ rfl⟩
structure S24 where
 f0 : Int
 f1 : (List S33)
def z24 : S24:=⟨(0 : Int),([] : List S33)⟩
def k24 : Kd S24:=Kd.iso (Kd.pair (Kd.int .i64) (Kd.slice 33 k33)) (fun x : S24 => (x.f0,x.f1))
theorem i_J {w : World} {x : S24} {cs : List Value} (h : k24.K w x cs) : ∃ A1 c1,cs = [.int .i64 x.f0,.slice A1 x.f1.length c1] ∧ x.f1.length ≤ c1 ∧ k33.C w A1 x.f1.length x.f1:=by
 obtain ⟨_,_,rfl,rfl,⟨A1,c1,rfl,l1,g1⟩⟩:=h
 exact ⟨A1,c1,rfl,l1,g1⟩
theorem y_m (w : World) (x : S24) {A1 : Option Addr} {c1 : Nat} (l1 : x.f1.length ≤ c1) (g1 : k33.C w A1 x.f1.length x.f1) : k24.K w x [.int .i64 x.f0,.slice A1 x.f1.length c1]:=⟨[.int .i64 x.f0],[.slice A1 x.f1.length c1],rfl,rfl,⟨A1,c1,rfl,l1,g1⟩⟩
theorem r_p {W : World} {ok : Nat → Prop} {x : S24} {cs : List Value} (h : Kd.FK k24 W ok x cs) : ∃ A1 c1,cs = [.int .i64 x.f0,.slice A1 x.f1.length c1] ∧ x.f1.length ≤ c1 ∧ Kd.F k33 W ok A1 x.f1.length x.f1:=by
 obtain ⟨A1,c1,rfl,l1,_⟩:=i_J (Kd.i_s h)
 exact ⟨A1,c1,rfl,l1,(fun W' hW => by obtain ⟨A1_,c1_,he,l1_,g1_⟩:=i_J (h W' hW);injection (Option.some.inj (show some (Value.slice A1 x.f1.length c1) = some (Value.slice A1_ x.f1.length c1_) from congrArg (fun l => l[1]?) he)) with ha_ _ _;rw [ha_];exact g1_)⟩
theorem r_o (W : World) (ok : Nat → Prop) (x : S24) {A1 : Option Addr} {c1 : Nat} (l1 : x.f1.length ≤ c1) (g1 : Kd.F k33 W ok A1 x.f1.length x.f1) : Kd.FK k24 W ok x [.int .i64 x.f0,.slice A1 x.f1.length c1]:=fun W2 hW => y_m W2 x l1 (g1 W2 hW)
def a_w (xs : List S24) (i : Int) : S24:=xs.getD i.toNat z24
theorem g_y {w : World} {A : Option Addr} {n : Nat} {xs : List S24} (h : Kd.C k24 w A n xs) (i : Int) (h0 : 0 ≤ i) (h1 : i < n) : ∃ ad A1 c1,A = some ad ∧ w.cell? (ad.add (i.toNat * 2)) = some (.int .i64 (a_w xs i).f0) ∧ w.cell? ⟨(ad.add (i.toNat * 2)).block,(ad.add (i.toNat * 2)).off + 1,none⟩ = some (.slice A1 (a_w xs i).f1.length c1) ∧ (a_w xs i).f1.length ≤ c1 ∧ k33.C w A1 (a_w xs i).f1.length (a_w xs i).f1:=by
 obtain ⟨ad,c,e,_,hK,hc0⟩:=Kd.o_Q h z24 i h0 h1
 have hc : ∀ j u,c[j]? = some u → w.cell? (ad.add (i.toNat * 2 + j)) = some u:=hc0
 obtain ⟨A1,c1,rfl,l1,g1⟩:=i_J hK
 exact ⟨ad,A1,c1,e,hc 0 _ rfl,by rw [← d_m _ _ 1 (by omega)];exact hc 1 _ rfl,l1,g1⟩
structure S49 where
 f0 : Int
 f1 : Int
def z49 : S49:=⟨(0 : Int),(0 : Int)⟩
def k49 : Kd S49:=Kd.iso (Kd.pair (Kd.int .i64) (Kd.int .i64)) (fun x : S49 => (x.f0,x.f1))
theorem s_q {w : World} {x : S49} {cs : List Value} (h : k49.K w x cs) : cs = [.int .i64 x.f0,.int .i64 x.f1]:=by
 obtain ⟨_,_,rfl,rfl,rfl⟩:=h
 exact rfl
theorem w_Z (w : World) (base : Nat) (ok : Nat → Prop) (x : S49)  : k49.M w base ok x [.int .i64 x.f0,.int .i64 x.f1]:=⟨[.int .i64 x.f0],[.int .i64 x.f1],rfl,rfl,rfl⟩
def d_I (xs : List S49) (i : Int) : S49:=xs.getD i.toNat z49
theorem x_s {w : World} {A : Option Addr} {n : Nat} {xs : List S49} (h : Kd.C k49 w A n xs) (i : Int) (h0 : 0 ≤ i) (h1 : i < n) : ∃ ad , A = some ad ∧ w.cell? (ad.add (i.toNat * 2)) = some (.int .i64 (d_I xs i).f0) ∧ w.cell? ⟨(ad.add (i.toNat * 2)).block,(ad.add (i.toNat * 2)).off + 1,none⟩ = some (.int .i64 (d_I xs i).f1):=by
 obtain ⟨ad,c,e,_,hK,hc0⟩:=Kd.o_Q h z49 i h0 h1
 have hc : ∀ j u,c[j]? = some u → w.cell? (ad.add (i.toNat * 2 + j)) = some u:=hc0
 obtain rfl:=s_q hK
 exact ⟨ad,e,hc 0 _ rfl,by rw [← d_m _ _ 1 (by omega)];exact hc 1 _ rfl⟩
def idxOf {α : Type} (p : α → Bool) (xs : List α) : Int:=match xs.findIdx? p with|some i => i|none => -1
theorem idxOf_hit {α : Type} {p : α → Bool} {xs : List α} {k : Nat} (hk : k < xs.length) (h : p xs[k] = true) (hb : ∀ j (hj : j < k),p (xs[j]'(by omega)) = false) : idxOf p xs = k:=by
 unfold idxOf
 have : xs.findIdx? p = some k:=by
  rw [List.findIdx?_eq_some_iff_getElem]
  exact ⟨hk,h,fun j hj => by simp [hb j hj]⟩
 rw [this]
theorem idxOf_miss {α : Type} {p : α → Bool} {xs : List α} (hb : ∀ j (hj : j < xs.length),p xs[j] = false) : idxOf p xs = -1:=by
 unfold idxOf
 have : xs.findIdx? p = none:=by
  rw [List.findIdx?_eq_none_iff]
  intro x hx
  obtain ⟨j,hj,rfl⟩:=List.getElem_of_mem hx
  exact hb j hj
 rw [this]
def e_u (w : World) : Prop:=TabAt 0 Lib.deBruijn32tab w
theorem e_u.below {w W : World} (h : e_u w) (hb : Below w.heap.size w W) : e_u W:=fun j hj => (hb.cell (p:=⟨0,j,none⟩) (World.block_lt_of_cell? w _ (h j hj))).trans (h j hj)
def g_z (m : Nat) : List Nat:=(List.range 8).filter fun i => m.testBit i
theorem o_X : ∀ m,m < 256 → m ≠ 0 → g_z m = Lib.ctz 32 m :: g_z (m &&& (m - 1)):=by decide +kernel
theorem p_w (m : Nat) : (g_z m).length ≤ 8:=by unfold g_z;exact Nat.le_trans (List.length_filter_le _ _) (by simp)
theorem o_Y : g_z 0 = []:=by decide
end Go.Proofs.YtgglkfilkagblaaDoor.Q
end
section
namespace Go.Proofs.YtgglkfilkagblaaDoor.Q
open Go.RowKit Go.Proofs.YtgglkfilkagblaaDoorW.PrintWords Go.Proofs.YtgglkfilkagblaaDoorW.PrintLast Go.Proofs.YtgglkfilkagblaaDoorW.PrintMore
open Go.ChangeShapes Go.WideShapes Go.ChangeAt
set_option linter.unusedVariables false
set_option linter.unusedSimpArgs false
structure f_a (P : Program) (t : TypeId) {α : Type} (d : Kd α) (wf : α → Prop) : Prop where
 cells : P.cellsOf t = d.sz
 open_ : ∀ {H : Type} {enc : TypeId × Value → H} {w : World} {base : Nat} {spare : Nat → Bool} {held : Bool} {fuel : Nat} {cs : List Value} {x : DataW H × List MemPlace},
  DataW.trod enc P w base spare held fuel t cs = some x → ∃ v,d.K w v cs ∧ wf v
theorem f_a.int {P : Program} {t : TypeId} {k : IntKind} (ht : P.underlying t = some (.int k)) (hc : P.cellsOf t = 1) : f_a P t (Kd.int k) (fun n => (Lit.int k n).wf = true) :=
 ⟨hc,fun {H enc w base spare held fuel cs x} h => by
  cases fuel with
  | zero => simp [DataW.trod] at h
  | succ n =>
   unfold DataW.trod at h
   rw [ht] at h
   split at h <;> simp_all
   exact ⟨_,rfl,h.1.2⟩⟩
theorem f_a.bool {P : Program} {t : TypeId} (ht : P.underlying t = some .bool) (hc : P.cellsOf t = 1) : f_a P t Kd.bool (fun _ => True) :=
 ⟨hc,fun {H enc w base spare held fuel cs x} h => by
  cases fuel with
  | zero => simp [DataW.trod] at h
  | succ n =>
   unfold DataW.trod at h
   rw [ht] at h
   split at h
   all_goals first|exact ⟨_,rfl,trivial⟩|simp_all⟩
theorem o_6 {α : Type} [Inhabited α] (m : Nat) (p : Nat → α → Prop) (h : ∀ i,i < m → ∃ v,p i v) : ∃ f : Nat → α, ∀ i,i < m → p i (f i):=by
 classical
 exact ⟨fun i => if hi : ∃ v,p i v then hi.choose else default,fun i hi => by
  have hx:=h i hi
  simp only [hx,dif_pos]
  exact hx.choose_spec⟩
theorem f_a.slice {P : Program} {t e : TypeId} {α : Type} {d : Kd α} {wf : α → Prop} [Inhabited α] (ht : P.underlying t = some (.slice e)) (hc : P.cellsOf t = 1) (he : f_a P e d wf) :
 f_a P t (Kd.slice e d) (fun l => l.length ≤ maxLen ∧ ∀ x ∈ l,wf x) :=
 ⟨hc,fun {H enc w base spare held fuel cs x} h => by
  rcases Go.Deep.open_slice ht h with ⟨rfl,_⟩ | ⟨a,len,cap,m,n,D,Pl,rfl,hb,hl,hm,hmm,_,hx⟩
  ·exact ⟨[],⟨none,0,rfl,Nat.le_refl _,⟨rfl,by simp,fun h => absurd h (Nat.lt_irrefl 0)⟩⟩,by simp,by simp⟩
  ·have hlm : len ≤ m:=by rw [hmm];split <;> omega
   obtain ⟨f,hf⟩:=o_6 (α:=α) m (fun i v => ∃ cs',w.cells? base (a.add (i * P.cellsOf e)) (P.cellsOf e) = some cs' ∧ d.K w v cs' ∧ wf v) (fun i hi => by
    obtain ⟨cs',h1,h2⟩:=hx i hi
    obtain ⟨v,h3,h4⟩:=he.open_ h2
    exact ⟨v,cs',h1,h3,h4⟩)
   have hml : maxLen = 9223372036854775807:=rfl
   refine ⟨(List.range len).map f,⟨some a,cap,by simp,by simpa using hl,⟨by simp,by simp;omega,fun _ => ⟨a,rfl,fun j p hj => ?_⟩⟩⟩,by simp;omega,fun v hv => ?_⟩
   ·rw [List.getElem?_map] at hj
    obtain ⟨i,hi,rfl⟩:=Option.map_eq_some_iff.1 hj
    have hij : j < len:=by
     rcases Nat.lt_or_ge j len with h|h
     ·exact h
     ·rw [List.getElem?_eq_none (by simpa using h)] at hi;cases hi
    rw [List.getElem?_range hij] at hi
    injection hi with hi
    subst hi
    obtain ⟨cs',h1,h2,h3⟩:=hf j (by omega)
    obtain ⟨_,h4,h5⟩:=World.cells?_some h1
    rw [he.cells] at h4 h5 h1
    refine ⟨cs',h4,h2,fun i u hu => ?_⟩
    have hil : i < d.sz:=by
     rw [← h4]
     exact (List.getElem?_eq_some_iff.1 hu).1
    rw [show j * d.sz + i = j * d.sz + i from rfl, ← add_add,h5 i hil]
    exact hu
   ·obtain ⟨j,hj,rfl⟩:=List.mem_map.1 hv
    obtain ⟨_,_,_,h3⟩:=hf j (by have:=List.mem_range.1 hj;omega)
    exact h3⟩
theorem c_d {P : Program} {H : Type} {enc : TypeId × Value → H} {w : World} {base : Nat} {spare : Nat → Bool} {held : Bool} {fuel : Nat} {t : TypeId} {cs : List Value} {x : DataW H × List MemPlace} {fs : Array Field}
 (ht : P.underlying t = some (.struct fs)) (h : DataW.trod enc P w base spare held fuel t cs = some x) (i : Nat) {f : Field} (hf : fs[i]? = some f) {α : Type} {d : Kd α} {wf : α → Prop} (ho : f_a P f.type d wf) :
 ∃ v,d.K w v ((cs.drop f.offset).take d.sz) ∧ wf v:=by
 obtain ⟨xs,n,_,_,_,hl,hx⟩:=DataW.trod_struct ht h
 have h1:=hx i f hf
 have hi : i < xs.length:=by rw [hl];exact (Array.getElem?_eq_some_iff.1 hf).1
 rw [List.getElem?_eq_getElem hi,ho.cells] at h1
 exact ho.open_ h1
theorem i_x {P : Program} {H : Type} {enc : TypeId × Value → H} {w : World} {base : Nat} {spare : Nat → Bool} {held : Bool} {fuel : Nat} {t : TypeId} {cs : List Value} {x : DataW H × List MemPlace} {fs : Array Field}
 (ht : P.underlying t = some (.struct fs)) (h : DataW.trod enc P w base spare held fuel t cs = some x) : cs.length = P.cellsOf t:=by
 obtain ⟨xs,n,_,_,hl,_⟩:=DataW.trod_struct ht h
 exact hl
theorem b_L {α : Type} {cs : List α} {n : Nat} (h : cs.length = n + 1) : ∃ a l,cs = a :: l ∧ l.length = n:=by
 cases cs with
 | nil => simp at h
 | cons a l => exact ⟨a,l,rfl,by simpa using h⟩
theorem toList_eq {α : Type} {cs : Array α} {l : List α} (h : cs.toList = l) : cs = l.toArray:=by rw [← h]
theorem own : ownKnob Tryd.prog.godebug = none:=by kernel_rfl
theorem laidOut : laidOutB Tryd.prog = true:=by kernel_rfl
instance : Inhabited S33:=⟨z33⟩
def wf33 (x : S33) : Prop:=(fun n => (Lit.int .i64 n).wf = true) x.f0 ∧ (fun n => (Lit.int .i64 n).wf = true) x.f1 ∧ (fun n => (Lit.int .i64 n).wf = true) x.f2 ∧ (fun n => (Lit.int .i64 n).wf = true) x.f3 ∧ (fun n => (Lit.int .i64 n).wf = true) x.f4 ∧ (fun _ => True) x.f5 ∧ (fun _ => True) x.f6 ∧ (fun n => (Lit.int .u32 n).wf = true) x.f7 ∧ (fun n => (Lit.int .i64 n).wf = true) x.f8 ∧ (fun n => (Lit.int .i64 n).wf = true) x.f9 ∧ (fun n => (Lit.int .i64 n).wf = true) x.f10
theorem op33 : f_a Tryd.prog 33 k33 wf33 :=
 ⟨by kernel_rfl,fun {H enc w base spare held fuel cs x} h => by
  have hl : cs.length = 11:=(i_x Tryd.underlying33 h).trans (by kernel_rfl)
  obtain ⟨v0,h0,w0⟩:=c_d Tryd.underlying33 h 0 rfl (f_a.int Tryd.underlying3 (by kernel_rfl))
  obtain ⟨v1,h1,w1⟩:=c_d Tryd.underlying33 h 1 rfl (f_a.int Tryd.underlying3 (by kernel_rfl))
  obtain ⟨v2,h2,w2⟩:=c_d Tryd.underlying33 h 2 rfl (f_a.int Tryd.underlying3 (by kernel_rfl))
  obtain ⟨v3,h3,w3⟩:=c_d Tryd.underlying33 h 3 rfl (f_a.int Tryd.underlying3 (by kernel_rfl))
  obtain ⟨v4,h4,w4⟩:=c_d Tryd.underlying33 h 4 rfl (f_a.int Tryd.underlying3 (by kernel_rfl))
  obtain ⟨v5,h5,w5⟩:=c_d Tryd.underlying33 h 5 rfl (f_a.bool Tryd.underlying4 (by kernel_rfl))
  obtain ⟨v6,h6,w6⟩:=c_d Tryd.underlying33 h 6 rfl (f_a.bool Tryd.underlying4 (by kernel_rfl))
  obtain ⟨v7,h7,w7⟩:=c_d Tryd.underlying33 h 7 rfl (f_a.int Tryd.underlying31 (by kernel_rfl))
  obtain ⟨v8,h8,w8⟩:=c_d Tryd.underlying33 h 8 rfl (f_a.int Tryd.underlying3 (by kernel_rfl))
  obtain ⟨v9,h9,w9⟩:=c_d Tryd.underlying33 h 9 rfl (f_a.int Tryd.underlying3 (by kernel_rfl))
  obtain ⟨v10,h10,w10⟩:=c_d Tryd.underlying33 h 10 rfl (f_a.int Tryd.underlying3 (by kernel_rfl))
  obtain ⟨c0,l0,rfl,hm0⟩:=b_L hl
  obtain ⟨c1,l1,rfl,hm1⟩:=b_L hm0
  obtain ⟨c2,l2,rfl,hm2⟩:=b_L hm1
  obtain ⟨c3,l3,rfl,hm3⟩:=b_L hm2
  obtain ⟨c4,l4,rfl,hm4⟩:=b_L hm3
  obtain ⟨c5,l5,rfl,hm5⟩:=b_L hm4
  obtain ⟨c6,l6,rfl,hm6⟩:=b_L hm5
  obtain ⟨c7,l7,rfl,hm7⟩:=b_L hm6
  obtain ⟨c8,l8,rfl,hm8⟩:=b_L hm7
  obtain ⟨c9,l9,rfl,hm9⟩:=b_L hm8
  obtain ⟨c10,l10,rfl,hm10⟩:=b_L hm9
  obtain rfl:=List.eq_nil_of_length_eq_zero hm10
  exact ⟨⟨v0,v1,v2,v3,v4,v5,v6,v7,v8,v9,v10⟩,⟨[c0],[c1,c2,c3,c4,c5,c6,c7,c8,c9,c10],rfl,h0,⟨[c1],[c2,c3,c4,c5,c6,c7,c8,c9,c10],rfl,h1,⟨[c2],[c3,c4,c5,c6,c7,c8,c9,c10],rfl,h2,⟨[c3],[c4,c5,c6,c7,c8,c9,c10],rfl,h3,⟨[c4],[c5,c6,c7,c8,c9,c10],rfl,h4,⟨[c5],[c6,c7,c8,c9,c10],rfl,h5,⟨[c6],[c7,c8,c9,c10],rfl,h6,⟨[c7],[c8,c9,c10],rfl,h7,⟨[c8],[c9,c10],rfl,h8,⟨[c9],[c10],rfl,h9,h10⟩⟩⟩⟩⟩⟩⟩⟩⟩⟩,⟨w0,w1,w2,w3,w4,w5,w6,w7,w8,w9,w10⟩⟩⟩
instance : Inhabited S24:=⟨z24⟩
def wf24 (x : S24) : Prop:=(fun n => (Lit.int .i64 n).wf = true) x.f0 ∧ (fun l => l.length ≤ maxLen ∧ ∀ x ∈ l,wf33 x) x.f1
theorem op24 : f_a Tryd.prog 24 k24 wf24 :=
 ⟨by kernel_rfl,fun {H enc w base spare held fuel cs x} h => by
  have hl : cs.length = 2:=(i_x Tryd.underlying24 h).trans (by kernel_rfl)
  obtain ⟨v0,h0,w0⟩:=c_d Tryd.underlying24 h 0 rfl (f_a.int Tryd.underlying2 (by kernel_rfl))
  obtain ⟨v1,h1,w1⟩:=c_d Tryd.underlying24 h 1 rfl (f_a.slice Tryd.underlying22 (by kernel_rfl) op33)
  obtain ⟨c0,l0,rfl,hm0⟩:=b_L hl
  obtain ⟨c1,l1,rfl,hm1⟩:=b_L hm0
  obtain rfl:=List.eq_nil_of_length_eq_zero hm1
  exact ⟨⟨v0,v1⟩,⟨[c0],[c1],rfl,h0,h1⟩,⟨w0,w1⟩⟩⟩
end Go.Proofs.YtgglkfilkagblaaDoor.Q
end
section
namespace Go.Proofs.YtgglkfilkagblaaDoor.Q
open Go.RowKit Go.Proofs.YtgglkfilkagblaaDoorW.PrintWords Go.Proofs.YtgglkfilkagblaaDoorW.PrintLast Go.Proofs.YtgglkfilkagblaaDoorW.PrintMore
set_option linter.unusedVariables false
set_option linter.unusedSimpArgs false
def c_u.f (a0 : Int) : Option (Bool):=if a0 ≥ 0 then (some (decide (a0 < 8))) else (some false)
set_option maxHeartbeats 8000000 in
set_option maxRecDepth 100000 in
theorem c_u.calls (a0 : Int) (r : Bool) (w : World) (h : c_u.f a0 = some r) :
 Calls Tryd.prog 40 #[.int .i64 a0] w fun e w' => e = .returned (.bool r) ∧ b_R w w':=by
 have H : (if a0 ≥ 0 then (some (decide (a0 < 8))) else (some false)) = some r:=h
 clear h
 by_cases c2 : a0 ≥ 0
 ·rw [if_pos c2] at H
  have c2b0 : decide (0 ≤ a0) = true:=decide_eq_true c2
  clear c2
  obtain rfl:=Option.some.inj H
  go_enter Tryd.func40,Tryd.ntmps40
  go_wp2
  go_ret
  exact ⟨by first|rfl|(simp;done)|(simp [*];done),by repeat (first|exact b_R.refl _|apply b_R.step)⟩
 rw [if_neg c2] at H
 have c2b0 : decide (0 ≤ a0) = false:=decide_eq_false c2
 clear c2
 obtain rfl:=Option.some.inj H
 go_enter Tryd.func40,Tryd.ntmps40
 go_wp2
 go_ret
 exact ⟨by first|rfl|(simp;done)|(simp [*];done),by repeat (first|exact b_R.refl _|apply b_R.step)⟩
end Go.Proofs.YtgglkfilkagblaaDoor.Q
end
section
namespace Go.Proofs.YtgglkfilkagblaaDoor.Q
open Go.RowKit Go.Proofs.YtgglkfilkagblaaDoorW.PrintWords Go.Proofs.YtgglkfilkagblaaDoorW.PrintLast Go.Proofs.YtgglkfilkagblaaDoorW.PrintMore
set_option linter.unusedVariables false
set_option linter.unusedSimpArgs false
def a_2.f (a0 : Int) (a1 : Int) : Option (Bool):=(c_u.f a1).bind fun t217 => (if t217 = true then (if 0 ≤ a1 then (some ((Int.tmod (shr .u32 a0 a1) 2) == 1)) else (none)) else (some false))
set_option maxHeartbeats 8000000 in
set_option maxRecDepth 100000 in
theorem a_2.calls (a0 : Int) (a1 : Int) (r : Bool) (w : World) (h : a_2.f a0 a1 = some r) :
 Calls Tryd.prog 27 #[.int .u32 a0,.int .i64 a1] w fun e w' => e = .returned (.bool r) ∧ b_R w w':=by
 have H : ((c_u.f a1).bind fun t217 => (if t217 = true then (if 0 ≤ a1 then (some ((Int.tmod (shr .u32 a0 a1) 2) == 1)) else (none)) else (some false))) = some r:=h
 clear h
 replace H:=Option.bind_eq_some_iff.mp H
 obtain ⟨t217,A30,H⟩:=H
 replace H : (if t217 = true then (if 0 ≤ a1 then (some ((Int.tmod (shr .u32 a0 a1) 2) == 1)) else (none)) else (some false)) = some r:=H
 have A3:=a_g.mk A30
 clear A30
 by_cases c4 : t217 = true
 rotate_left
 ·replace c4:=Bool.eq_false_iff.mpr c4
  subst c4
  have H1 : (some false) = some r:=by rw [if_neg (show ¬ (false = true) by decide)] at H;exact H
  clear H
  have H:=H1
  clear H1
  obtain rfl:=Option.some.inj H
  go_enter Tryd.func27,Tryd.ntmps27
  go_wp2_with (first|((with_reducible refine a_J (f:=40) rfl ?_);refine b_t (some 6) rfl rfl Tryd.func40 (by kernel_rfl) rfl #[.int .i64 a1] rfl (by (try simp only [List.map_toArray,List.map_cons,List.map_nil]);first|done|rfl|(simp only [List.length_drop,List.length_take];rfl)) ?_;(with_reducible refine (c_u.calls a1 false _ A3.out).mono ?_);rintro e w' ⟨rfl,⟨nd,rfl⟩⟩;refine ⟨_,rfl,?_⟩))
  go_ret
  exact ⟨by first|rfl|(simp;done)|(simp [*];done),by repeat (first|exact b_R.refl _|apply b_R.step)⟩
 subst c4
 have H1 : (if 0 ≤ a1 then (some ((Int.tmod (shr .u32 a0 a1) 2) == 1)) else (none)) = some r:=by rw [if_pos rfl] at H;exact H
 clear H
 have H:=H1
 clear H1
 by_cases c5 : 0 ≤ a1
 rotate_left
 ·rw [if_neg c5] at H
  exact absurd H (by simp)
 rw [if_pos c5] at H
 have c5b0:=eq_true c5
 have c5b1 : decide (0 ≤ a1) = true:=decide_eq_true c5
 clear c5
 obtain ⟨ji6,hji6⟩ : ∃ j_ : Int,(shr .u32 a0 a1) = j_:=⟨_,rfl⟩
 replace H : (some ((Int.tmod (ji6) 2) == 1)) = some r:=by first|(rw [hji6] at H;exact H)|(simp only [hji6] at H ⊢; exact H)
 (try rw [hji6] at A3)
 have hji6_ : (a0 / 2 ^ min a1.toNat 32) = ji6:=hji6
 have hji6z : a1 ≤ 32 → (a0 / 2 ^ a1.toNat) = ji6:=r_D hji6
 obtain rfl:=Option.some.inj H
 go_enter Tryd.func27,Tryd.ntmps27
 go_wp2_with (first|((with_reducible refine a_J (f:=40) rfl ?_);refine b_t (some 6) rfl rfl Tryd.func40 (by kernel_rfl) rfl #[.int .i64 a1] rfl (by (try simp only [List.map_toArray,List.map_cons,List.map_nil]);first|done|rfl|(simp only [List.length_drop,List.length_take];rfl)) ?_;(with_reducible refine (c_u.calls a1 true _ A3.out).mono ?_);rintro e w' ⟨rfl,⟨nd,rfl⟩⟩;refine ⟨_,rfl,?_⟩))
 go_ret
 exact ⟨by first|rfl|(simp;done)|(simp only [← hji6] <;> (first|rfl|simp))|(simp [*];done),by repeat (first|exact b_R.refl _|apply b_R.step)⟩
end Go.Proofs.YtgglkfilkagblaaDoor.Q
end
section
namespace Go.Proofs.YtgglkfilkagblaaDoor.Q
open Go.RowKit Go.Proofs.YtgglkfilkagblaaDoorW.PrintWords Go.Proofs.YtgglkfilkagblaaDoorW.PrintLast Go.Proofs.YtgglkfilkagblaaDoorW.PrintMore
set_option linter.unusedVariables false
set_option linter.unusedSimpArgs false
mutual
def a_q.l0 : Nat → Int → Int → List (S33) → Option (Bool)
 | 0,_,_,_ => none
 | k + 1,x3,x219000,x219001 => if x3 < (x219001.length : Int) then (if 0 ≤ x3 then (if ((a_a x219001 x3).f4) < 0 then (a_q.l0 k (wrap64 (x3 + 1)) x219000 x219001) else (if ((a_a x219001 x3).f5 = true) then (if (a_a x219001 x3).f6 = true then (a_q.j1 k x3 true x219000 x219001 ((a_a x219001 x3).f0) ((a_a x219001 x3).f1) ((a_a x219001 x3).f2) ((a_a x219001 x3).f3) ((a_a x219001 x3).f4) ((a_a x219001 x3).f5) ((a_a x219001 x3).f6) ((a_a x219001 x3).f7) ((a_a x219001 x3).f8) ((a_a x219001 x3).f9) ((a_a x219001 x3).f10)) else ((a_2.f ((a_a x219001 x3).f7) ((a_a x219001 x3).f4)).bind fun t221 => (a_q.j1 k x3 (!t221) x219000 x219001 ((a_a x219001 x3).f0) ((a_a x219001 x3).f1) ((a_a x219001 x3).f2) ((a_a x219001 x3).f3) ((a_a x219001 x3).f4) ((a_a x219001 x3).f5) ((a_a x219001 x3).f6) ((a_a x219001 x3).f7) ((a_a x219001 x3).f8) ((a_a x219001 x3).f9) ((a_a x219001 x3).f10)))) else (a_q.j1 k x3 true x219000 x219001 ((a_a x219001 x3).f0) ((a_a x219001 x3).f1) ((a_a x219001 x3).f2) ((a_a x219001 x3).f3) ((a_a x219001 x3).f4) ((a_a x219001 x3).f5) ((a_a x219001 x3).f6) ((a_a x219001 x3).f7) ((a_a x219001 x3).f8) ((a_a x219001 x3).f9) ((a_a x219001 x3).f10)))) else (none)) else (some true)
def a_q.j1 : Nat → Int → Bool → Int → List (S33) → Int → Int → Int → Int → Int → Bool → Bool → Int → Int → Int → Int → Option (Bool)
 | 0,_,_,_,_,_,_,_,_,_,_,_,_,_,_,_ => none
 | k + 1,x3,x35,x219000,x219001,x221000,x221001,x221002,x221003,x221004,x221005,x221006,x221007,x221008,x221009,x221010 => if x35 = true then (some false) else (a_q.l1 k x3 0 x219000 x219001 x221000 x221001 x221002 x221003 x221004 x221005 x221006 x221007 x221008 x221009 x221010)
def a_q.l1 : Nat → Int → Int → Int → List (S33) → Int → Int → Int → Int → Int → Bool → Bool → Int → Int → Int → Int → Option (Bool)
 | 0,_,_,_,_,_,_,_,_,_,_,_,_,_,_,_ => none
 | k + 1,x3,x5,x219000,x219001,x221000,x221001,x221002,x221003,x221004,x221005,x221006,x221007,x221008,x221009,x221010 => if x5 < x3 then (if 0 ≤ x5 then (if x5 < (x219001.length : Int) then (if ((a_a x219001 x5).f4) = x221004 then (some false) else (a_q.l1 k x3 (wrap64 (x5 + 1)) x219000 x219001 x221000 x221001 x221002 x221003 x221004 x221005 x221006 x221007 x221008 x221009 x221010)) else (none)) else (none)) else (a_q.l0 k (wrap64 (x3 + 1)) x219000 x219001)
end
def a_q.f (k : Nat) (a0_0 : Int) (l0_1 : List (S33)) : Option (Bool):=a_q.l0 k 0 a0_0 l0_1
theorem a_q.c_F : ∀ k,(∀ y0 y1 y2,LeO (a_q.l0 k y0 y1 y2) (a_q.l0 (k + 1) y0 y1 y2)) ∧ (∀ y0 y1 y2 y3 y4 y5 y6 y7 y8 y9 y10 y11 y12 y13 y14,LeO (a_q.j1 k y0 y1 y2 y3 y4 y5 y6 y7 y8 y9 y10 y11 y12 y13 y14) (a_q.j1 (k + 1) y0 y1 y2 y3 y4 y5 y6 y7 y8 y9 y10 y11 y12 y13 y14)) ∧ (∀ y0 y1 y2 y3 y4 y5 y6 y7 y8 y9 y10 y11 y12 y13 y14,LeO (a_q.l1 k y0 y1 y2 y3 y4 y5 y6 y7 y8 y9 y10 y11 y12 y13 y14) (a_q.l1 (k + 1) y0 y1 y2 y3 y4 y5 y6 y7 y8 y9 y10 y11 y12 y13 y14))
 | 0 => ⟨fun _ _ _ r h => by simp [a_q.l0] at h,fun _ _ _ _ _ _ _ _ _ _ _ _ _ _ _ r h => by simp [a_q.j1] at h,fun _ _ _ _ _ _ _ _ _ _ _ _ _ _ _ r h => by simp [a_q.l1] at h⟩
 | k + 1 => by
  obtain ⟨ih0,ih1,ih2⟩:=a_q.c_F k
  refine ⟨?_,?_,?_⟩
  ·intro y0 y1 y2
   unfold a_q.l0
   repeat' first
   | (with_reducible exact ih0 _ _ _)
   | (with_reducible exact ih1 _ _ _ _ _ _ _ _ _ _ _ _ _ _ _)
   | (with_reducible exact ih2 _ _ _ _ _ _ _ _ _ _ _ _ _ _ _)
   | (with_reducible exact LeO.refl _)
   | (with_reducible exact LeO.none _)
   | (with_reducible refine LeO.ite ?_ ?_)
   | (with_reducible refine LeO.bind ?_ (fun _ => ?_))
   | exact ih0 _ _ _
   | exact ih1 _ _ _ _ _ _ _ _ _ _ _ _ _ _ _
   | exact ih2 _ _ _ _ _ _ _ _ _ _ _ _ _ _ _
   | exact LeO.none _
   | refine LeO.ite ?_ ?_
   | refine LeO.bind ?_ (fun _ => ?_)
  ·intro y0 y1 y2 y3 y4 y5 y6 y7 y8 y9 y10 y11 y12 y13 y14
   unfold a_q.j1
   repeat' first
   | (with_reducible exact ih0 _ _ _)
   | (with_reducible exact ih1 _ _ _ _ _ _ _ _ _ _ _ _ _ _ _)
   | (with_reducible exact ih2 _ _ _ _ _ _ _ _ _ _ _ _ _ _ _)
   | (with_reducible exact LeO.refl _)
   | (with_reducible exact LeO.none _)
   | (with_reducible refine LeO.ite ?_ ?_)
   | (with_reducible refine LeO.bind ?_ (fun _ => ?_))
   | exact ih0 _ _ _
   | exact ih1 _ _ _ _ _ _ _ _ _ _ _ _ _ _ _
   | exact ih2 _ _ _ _ _ _ _ _ _ _ _ _ _ _ _
   | exact LeO.none _
   | refine LeO.ite ?_ ?_
   | refine LeO.bind ?_ (fun _ => ?_)
  ·intro y0 y1 y2 y3 y4 y5 y6 y7 y8 y9 y10 y11 y12 y13 y14
   unfold a_q.l1
   repeat' first
   | (with_reducible exact ih0 _ _ _)
   | (with_reducible exact ih1 _ _ _ _ _ _ _ _ _ _ _ _ _ _ _)
   | (with_reducible exact ih2 _ _ _ _ _ _ _ _ _ _ _ _ _ _ _)
   | (with_reducible exact LeO.refl _)
   | (with_reducible exact LeO.none _)
   | (with_reducible refine LeO.ite ?_ ?_)
   | (with_reducible refine LeO.bind ?_ (fun _ => ?_))
   | exact ih0 _ _ _
   | exact ih1 _ _ _ _ _ _ _ _ _ _ _ _ _ _ _
   | exact ih2 _ _ _ _ _ _ _ _ _ _ _ _ _ _ _
   | exact LeO.none _
   | refine LeO.ite ?_ ?_
   | refine LeO.bind ?_ (fun _ => ?_)
theorem a_q.mono : ∀ a0 a1 k,LeO (a_q.f k a0 a1) (a_q.f (k + 1) a0 a1):=by
 intro a0 a1 k
 obtain ⟨ih0,ih1,ih2⟩:=a_q.c_F k
 unfold a_q.f
 repeat' first
  | (with_reducible exact ih0 _ _ _)
  | (with_reducible exact ih1 _ _ _ _ _ _ _ _ _ _ _ _ _ _ _)
  | (with_reducible exact ih2 _ _ _ _ _ _ _ _ _ _ _ _ _ _ _)
  | (with_reducible exact LeO.refl _)
  | (with_reducible exact LeO.none _)
  | (with_reducible refine LeO.ite ?_ ?_)
  | (with_reducible refine LeO.bind ?_ (fun _ => ?_))
  | exact ih0 _ _ _
  | exact ih1 _ _ _ _ _ _ _ _ _ _ _ _ _ _ _
  | exact ih2 _ _ _ _ _ _ _ _ _ _ _ _ _ _ _
  | exact LeO.none _
  | refine LeO.ite ?_ ?_
  | refine LeO.bind ?_ (fun _ => ?_)
set_option maxHeartbeats 8000000 in
set_option maxRecDepth 100000 in
theorem a_q.calls (k : Nat) (a0_0 : Int) (A0_1 : Option Addr) (c0_1 : Nat) (l0_1 : List (S33)) (r : Bool) (w : World) (hr0_1 : Kd.C k33 w A0_1 l0_1.length l0_1) (hc0_1 : l0_1.length ≤ c0_1) (h : a_q.f k a0_0 l0_1 = some r) :
 Calls Tryd.prog 10 #[.agg #[.int .i64 a0_0,.slice A0_1 l0_1.length c0_1]] w fun e w' => e = .returned (.bool r) ∧ Below w.heap.size w w':=by
 have hu24:=Tryd.underlying24
 have hu33:=Tryd.underlying33
 have b_v:=a_g.mk hr0_1
 have c_b:=a_g.mk hc0_1
 clear hr0_1 hc0_1
 have HB:=a_g.mk (Below.refl w.heap.size w)
 have H : (a_q.l0 k 0 a0_0 l0_1) = some r:=h
 clear h
 have H':=a_g.mk H
 clear H
 go_enter Tryd.func10,Tryd.ntmps10
 go_wp2_with (first|((with_reducible refine a_G (N:=1) rfl ?_);refine a_C ?hg (N:=1) ?hd (cs:=#[.int .i64 a0_0,.slice A0_1 l0_1.length c0_1]) (t:=24) ?hr ?_;(case hd => rfl);(case hg => rfl);(case hr => first|(go_simp;done)|(go_simp;rfl));intro d_Z hg w2 hbox hb;have c_x:=a_g.mk (hbox);have x_d:=a_g.mk ((by rw [hg];exact (a_n (lup_ HB.out)) : w.heap.size ≤ d_Z));have d_5:=a_g.mk ((by rw [hg];exact (a_n (lup_ HB.out)) : w.heap.size ≤ d_Z));replace HB:=a_g.mk (a_p (lup_ HB.out) hb);clear hb hbox hg))
 repeat (go_quiet (first|((with_reducible refine a_G (N:=1) rfl ?_);refine a_C ?hg (N:=1) ?hd (cs:=#[.int .i64 a0_0,.slice A0_1 l0_1.length c0_1]) (t:=24) ?hr ?_;(case hd => rfl);(case hg => rfl);(case hr => first|(go_simp;done)|(go_simp;rfl));intro d_Z hg w2 hbox hb;have c_x:=a_g.mk (hbox);have x_d:=a_g.mk ((by rw [hg];exact (a_n (lup_ HB.out)) : w.heap.size ≤ d_Z));have d_5:=a_g.mk ((by rw [hg];exact (a_n (lup_ HB.out)) : w.heap.size ≤ d_Z));replace HB:=a_g.mk (a_p (lup_ HB.out) hb);clear hb hbox hg));try go_wp2_with (first|((with_reducible refine a_G (N:=1) rfl ?_);refine a_C ?hg (N:=1) ?hd (cs:=#[.int .i64 a0_0,.slice A0_1 l0_1.length c0_1]) (t:=24) ?hr ?_;(case hd => rfl);(case hg => rfl);(case hr => first|(go_simp;done)|(go_simp;rfl));intro d_Z hg w2 hbox hb;have c_x:=a_g.mk (hbox);have x_d:=a_g.mk ((by rw [hg];exact (a_n (lup_ HB.out)) : w.heap.size ≤ d_Z));have d_5:=a_g.mk ((by rw [hg];exact (a_n (lup_ HB.out)) : w.heap.size ≤ d_Z));replace HB:=a_g.mk (a_p (lup_ HB.out) hb);clear hb hbox hg)))
 go_loopg [3] k (fun kq v3 w' => ∃ (x3_1 : Int),v3 = .int .i64 x3_1 ∧ a_g (a_q.l0 kq x3_1 a0_0 l0_1 = some r) ∧ a_g (kq ≤ k) ∧ a_g (w'.heap[d_Z]? = some (.cells #[.int .i64 a0_0,(.slice A0_1 l0_1.length c0_1)] 24 (0,0))) ∧ a_g (Below w.heap.size w w'))
 case atStart => exact ⟨(0),(by first|rfl|(simp;done)|(simp [*];done)),H',⟨Nat.le_refl _⟩,⟨by (with_reducible repeat (first|refine a_e ?_ _|refine a_h ?_|refine a_d ?_ _));exact c_x.out⟩,⟨by repeat (first|(with_reducible first|exact HB.out|apply a_j|apply a_f|apply a_k|refine a_i ?_ d_5.out)|exact HB.out)⟩⟩
 case round =>
  clear H'
  try clear c1
  try clear p2
  obtain ⟨x3_1,rfl,HA,HK1,c_x,HB⟩:=hrel
  cases gk with
  | zero => exact absurd HA.out (by simp [a_q.l0])
  | succ k1 =>
   have H:=HA.out
   clear HA
   simp only [a_q.l0] at H
   by_cases c3 : x3_1 < (l0_1.length : Int)
   rotate_left
   ·rw [if_neg c3] at H
    have c3b0 : decide (x3_1 < (l0_1.length : Int)) = false:=decide_eq_false c3
    clear c3
    obtain rfl:=Option.some.inj H
    have A_C : wr.cell? ⟨d_Z,0,none⟩ = some (.int .i64 a0_0):=(a_b c_x.out 0).trans rfl
    have A_D : wr.cell? ⟨d_Z,1,none⟩ = some (.slice A0_1 l0_1.length c0_1):=(a_b c_x.out 1).trans rfl
    have E_k:=a_c c_x.out 0
    have E_l:=a_c c_x.out 1
    go_wp2
    repeat (go_quiet (fail);try go_wp2)
    go_ret
    exact ⟨by first|rfl|(simp [a_u,a_v] <;> rfl)|(simp [*, a_u,a_v] <;> rfl),by repeat (first|(with_reducible first|exact HB.out|apply a_j|apply a_f|apply a_k|refine a_i ?_ d_5.out)|exact HB.out)⟩
   rw [if_pos c3] at H
   have c3b0 : decide (x3_1 < (l0_1.length : Int)) = true:=decide_eq_true c3
   clear c3
   by_cases c4 : 0 ≤ x3_1
   rotate_left
   ·rw [if_neg c4] at H
    exact absurd H (by simp)
   rw [if_pos c4] at H
   have c4b0 : decide (0 ≤ x3_1) = true:=decide_eq_true c4
   clear c4
   by_cases c5 : ((a_a l0_1 x3_1).f4) < 0
   ·rw [if_pos c5] at H
    have c5b0 : decide (((a_a l0_1 x3_1).f4) < 0) = true:=decide_eq_true c5
    clear c5
    have H':=a_g.mk H
    clear H
    have l_T : wr.cell? ⟨d_Z,0,none⟩ = some (.int .i64 a0_0):=(a_b c_x.out 0).trans rfl
    have l_U : wr.cell? ⟨d_Z,1,none⟩ = some (.slice A0_1 l0_1.length c0_1):=(a_b c_x.out 1).trans rfl
    have l_V:=a_c c_x.out 0
    have l_W:=a_c c_x.out 1
    have p219 : 0 ≤ (x3_1 : Int):=of_decide_eq_true (by first|(with_reducible assumption)|assumption)
    have q219 : x3_1 < (l0_1.length : Int):=of_decide_eq_true (by first|(with_reducible assumption)|assumption)
    obtain ⟨ad219,e219,g_e,g_f,g_g,g_h,g_i,g_j,g_k,g_l,g_m,g_n,e_0⟩:=c_e b_v.out x3_1 p219 q219
    cases e219
    replace g_e:=(HB.out.cell (World.block_lt_of_cell? w _ g_e)).trans g_e
    replace g_f:=(HB.out.cell (World.block_lt_of_cell? w _ g_f)).trans g_f
    replace g_g:=(HB.out.cell (World.block_lt_of_cell? w _ g_g)).trans g_g
    replace g_h:=(HB.out.cell (World.block_lt_of_cell? w _ g_h)).trans g_h
    replace g_i:=(HB.out.cell (World.block_lt_of_cell? w _ g_i)).trans g_i
    replace g_j:=(HB.out.cell (World.block_lt_of_cell? w _ g_j)).trans g_j
    replace g_k:=(HB.out.cell (World.block_lt_of_cell? w _ g_k)).trans g_k
    replace g_l:=(HB.out.cell (World.block_lt_of_cell? w _ g_l)).trans g_l
    replace g_m:=(HB.out.cell (World.block_lt_of_cell? w _ g_m)).trans g_m
    replace g_n:=(HB.out.cell (World.block_lt_of_cell? w _ g_n)).trans g_n
    replace e_0:=(HB.out.cell (World.block_lt_of_cell? w _ e_0)).trans e_0
    replace p219:=eq_true p219
    replace q219:=eq_true q219
    go_wp2_with (first|((with_reducible refine a_G (N:=4) rfl ?_);refine a_C ?hg (N:=4) ?hd (cs:=#[.int .i64 0,.int .i64 0,.int .i64 0,.int .i64 0,.int .i64 0,.bool false,.bool false,.int .u32 0,.int .i64 0,.int .i64 0,.int .i64 0]) (t:=33) ?hr ?_;(case hd => rfl);(case hg => rfl);(case hr => first|(go_simp;done)|(go_simp;rfl));intro a_4 hg w7 hbox hb;have a_M:=a_g.mk (hbox);have p_d:=a_g.mk ((by rw [hg];exact (a_n (by repeat (first|(with_reducible first|exact HB.out|apply a_j|apply a_f|apply a_k|refine a_i ?_ d_5.out)|exact HB.out))) : w.heap.size ≤ a_4));have h_T:=a_g.mk ((by rw [hg];exact (a_n (by repeat (first|(with_reducible first|exact HB.out|apply a_j|apply a_f|apply a_k|refine a_i ?_ d_5.out)|exact HB.out))) : w.heap.size ≤ a_4));have a_Y:=a_g.mk ((by rw [hg];exact Nat.ne_of_lt (a_L (bup_ c_x.out)) : d_Z ≠ a_4));have c_I:=a_g.mk ((by rw [hg];exact Nat.ne_of_gt (a_L (bup_ c_x.out)) : a_4 ≠ d_Z));replace c_x:=a_g.mk (a_m (bup_ c_x.out) hb);replace HB:=a_g.mk (a_p (by repeat (first|(with_reducible first|exact HB.out|apply a_j|apply a_f|apply a_k|refine a_i ?_ d_5.out)|exact HB.out)) hb);clear hb hbox hg;have hnb8:=c_I.out;have hnc8:=a_Y.out;have j_H : w7.cell? ⟨a_4,0,none⟩ = some (.int .i64 0):=(a_b a_M.out 0).trans rfl;have j_I : w7.cell? ⟨a_4,1,none⟩ = some (.int .i64 0):=(a_b a_M.out 1).trans rfl;have o_f : w7.cell? ⟨a_4,2,none⟩ = some (.int .i64 0):=(a_b a_M.out 2).trans rfl;have o_g : w7.cell? ⟨a_4,3,none⟩ = some (.int .i64 0):=(a_b a_M.out 3).trans rfl;have o_h : w7.cell? ⟨a_4,4,none⟩ = some (.int .i64 0):=(a_b a_M.out 4).trans rfl;have o_i : w7.cell? ⟨a_4,5,none⟩ = some (.bool false):=(a_b a_M.out 5).trans rfl;have o_j : w7.cell? ⟨a_4,6,none⟩ = some (.bool false):=(a_b a_M.out 6).trans rfl;have o_k : w7.cell? ⟨a_4,7,none⟩ = some (.int .u32 0):=(a_b a_M.out 7).trans rfl;have o_l : w7.cell? ⟨a_4,8,none⟩ = some (.int .i64 0):=(a_b a_M.out 8).trans rfl;have o_m : w7.cell? ⟨a_4,9,none⟩ = some (.int .i64 0):=(a_b a_M.out 9).trans rfl;have k_w : w7.cell? ⟨a_4,10,none⟩ = some (.int .i64 0):=(a_b a_M.out 10).trans rfl;have j_J:=a_c a_M.out 0;have j_K:=a_c a_M.out 1;have o_u:=a_c a_M.out 2;have o_v:=a_c a_M.out 3;have o_w:=a_c a_M.out 4;have o_x:=a_c a_M.out 5;have o_y:=a_c a_M.out 6;have o_z:=a_c a_M.out 7;have o_A:=a_c a_M.out 8;have o_B:=a_c a_M.out 9;have k_0:=a_c a_M.out 10))
    repeat (go_quiet (first|((with_reducible refine a_G (N:=4) rfl ?_);refine a_C ?hg (N:=4) ?hd (cs:=#[.int .i64 0,.int .i64 0,.int .i64 0,.int .i64 0,.int .i64 0,.bool false,.bool false,.int .u32 0,.int .i64 0,.int .i64 0,.int .i64 0]) (t:=33) ?hr ?_;(case hd => rfl);(case hg => rfl);(case hr => first|(go_simp;done)|(go_simp;rfl));intro a_4 hg w7 hbox hb;have a_M:=a_g.mk (hbox);have p_d:=a_g.mk ((by rw [hg];exact (a_n (by repeat (first|(with_reducible first|exact HB.out|apply a_j|apply a_f|apply a_k|refine a_i ?_ d_5.out)|exact HB.out))) : w.heap.size ≤ a_4));have h_T:=a_g.mk ((by rw [hg];exact (a_n (by repeat (first|(with_reducible first|exact HB.out|apply a_j|apply a_f|apply a_k|refine a_i ?_ d_5.out)|exact HB.out))) : w.heap.size ≤ a_4));have a_Y:=a_g.mk ((by rw [hg];exact Nat.ne_of_lt (a_L (bup_ c_x.out)) : d_Z ≠ a_4));have c_I:=a_g.mk ((by rw [hg];exact Nat.ne_of_gt (a_L (bup_ c_x.out)) : a_4 ≠ d_Z));replace c_x:=a_g.mk (a_m (bup_ c_x.out) hb);replace HB:=a_g.mk (a_p (by repeat (first|(with_reducible first|exact HB.out|apply a_j|apply a_f|apply a_k|refine a_i ?_ d_5.out)|exact HB.out)) hb);clear hb hbox hg;have hnb8:=c_I.out;have hnc8:=a_Y.out;have j_H : w7.cell? ⟨a_4,0,none⟩ = some (.int .i64 0):=(a_b a_M.out 0).trans rfl;have j_I : w7.cell? ⟨a_4,1,none⟩ = some (.int .i64 0):=(a_b a_M.out 1).trans rfl;have o_f : w7.cell? ⟨a_4,2,none⟩ = some (.int .i64 0):=(a_b a_M.out 2).trans rfl;have o_g : w7.cell? ⟨a_4,3,none⟩ = some (.int .i64 0):=(a_b a_M.out 3).trans rfl;have o_h : w7.cell? ⟨a_4,4,none⟩ = some (.int .i64 0):=(a_b a_M.out 4).trans rfl;have o_i : w7.cell? ⟨a_4,5,none⟩ = some (.bool false):=(a_b a_M.out 5).trans rfl;have o_j : w7.cell? ⟨a_4,6,none⟩ = some (.bool false):=(a_b a_M.out 6).trans rfl;have o_k : w7.cell? ⟨a_4,7,none⟩ = some (.int .u32 0):=(a_b a_M.out 7).trans rfl;have o_l : w7.cell? ⟨a_4,8,none⟩ = some (.int .i64 0):=(a_b a_M.out 8).trans rfl;have o_m : w7.cell? ⟨a_4,9,none⟩ = some (.int .i64 0):=(a_b a_M.out 9).trans rfl;have k_w : w7.cell? ⟨a_4,10,none⟩ = some (.int .i64 0):=(a_b a_M.out 10).trans rfl;have j_J:=a_c a_M.out 0;have j_K:=a_c a_M.out 1;have o_u:=a_c a_M.out 2;have o_v:=a_c a_M.out 3;have o_w:=a_c a_M.out 4;have o_x:=a_c a_M.out 5;have o_y:=a_c a_M.out 6;have o_z:=a_c a_M.out 7;have o_A:=a_c a_M.out 8;have o_B:=a_c a_M.out 9;have k_0:=a_c a_M.out 10));try go_wp2_with (first|((with_reducible refine a_G (N:=4) rfl ?_);refine a_C ?hg (N:=4) ?hd (cs:=#[.int .i64 0,.int .i64 0,.int .i64 0,.int .i64 0,.int .i64 0,.bool false,.bool false,.int .u32 0,.int .i64 0,.int .i64 0,.int .i64 0]) (t:=33) ?hr ?_;(case hd => rfl);(case hg => rfl);(case hr => first|(go_simp;done)|(go_simp;rfl));intro a_4 hg w7 hbox hb;have a_M:=a_g.mk (hbox);have p_d:=a_g.mk ((by rw [hg];exact (a_n (by repeat (first|(with_reducible first|exact HB.out|apply a_j|apply a_f|apply a_k|refine a_i ?_ d_5.out)|exact HB.out))) : w.heap.size ≤ a_4));have h_T:=a_g.mk ((by rw [hg];exact (a_n (by repeat (first|(with_reducible first|exact HB.out|apply a_j|apply a_f|apply a_k|refine a_i ?_ d_5.out)|exact HB.out))) : w.heap.size ≤ a_4));have a_Y:=a_g.mk ((by rw [hg];exact Nat.ne_of_lt (a_L (bup_ c_x.out)) : d_Z ≠ a_4));have c_I:=a_g.mk ((by rw [hg];exact Nat.ne_of_gt (a_L (bup_ c_x.out)) : a_4 ≠ d_Z));replace c_x:=a_g.mk (a_m (bup_ c_x.out) hb);replace HB:=a_g.mk (a_p (by repeat (first|(with_reducible first|exact HB.out|apply a_j|apply a_f|apply a_k|refine a_i ?_ d_5.out)|exact HB.out)) hb);clear hb hbox hg;have hnb8:=c_I.out;have hnc8:=a_Y.out;have j_H : w7.cell? ⟨a_4,0,none⟩ = some (.int .i64 0):=(a_b a_M.out 0).trans rfl;have j_I : w7.cell? ⟨a_4,1,none⟩ = some (.int .i64 0):=(a_b a_M.out 1).trans rfl;have o_f : w7.cell? ⟨a_4,2,none⟩ = some (.int .i64 0):=(a_b a_M.out 2).trans rfl;have o_g : w7.cell? ⟨a_4,3,none⟩ = some (.int .i64 0):=(a_b a_M.out 3).trans rfl;have o_h : w7.cell? ⟨a_4,4,none⟩ = some (.int .i64 0):=(a_b a_M.out 4).trans rfl;have o_i : w7.cell? ⟨a_4,5,none⟩ = some (.bool false):=(a_b a_M.out 5).trans rfl;have o_j : w7.cell? ⟨a_4,6,none⟩ = some (.bool false):=(a_b a_M.out 6).trans rfl;have o_k : w7.cell? ⟨a_4,7,none⟩ = some (.int .u32 0):=(a_b a_M.out 7).trans rfl;have o_l : w7.cell? ⟨a_4,8,none⟩ = some (.int .i64 0):=(a_b a_M.out 8).trans rfl;have o_m : w7.cell? ⟨a_4,9,none⟩ = some (.int .i64 0):=(a_b a_M.out 9).trans rfl;have k_w : w7.cell? ⟨a_4,10,none⟩ = some (.int .i64 0):=(a_b a_M.out 10).trans rfl;have j_J:=a_c a_M.out 0;have j_K:=a_c a_M.out 1;have o_u:=a_c a_M.out 2;have o_v:=a_c a_M.out 3;have o_w:=a_c a_M.out 4;have o_x:=a_c a_M.out 5;have o_y:=a_c a_M.out 6;have o_z:=a_c a_M.out 7;have o_A:=a_c a_M.out 8;have o_B:=a_c a_M.out 9;have k_0:=a_c a_M.out 10)))
    go_roundg k1
    case measure => have:=HK1.out;omega
    case rel => exact ⟨(wrap64 (x3_1 + 1)),(by first|rfl|(simp;done)|(simp [*];done)),H',⟨by have:=HK1.out;omega⟩,⟨by (with_reducible repeat (first|refine a_e ?_ _|refine a_h ?_|refine a_d ?_ _));refine a_o ?_ a_Y.out _;(with_reducible repeat (first|refine a_e ?_ _|refine a_h ?_|refine a_d ?_ _));refine a_o ?_ a_Y.out _;(with_reducible repeat (first|refine a_e ?_ _|refine a_h ?_|refine a_d ?_ _));refine a_o ?_ a_Y.out _;(with_reducible repeat (first|refine a_e ?_ _|refine a_h ?_|refine a_d ?_ _));refine a_o ?_ a_Y.out _;(with_reducible repeat (first|refine a_e ?_ _|refine a_h ?_|refine a_d ?_ _));refine a_o ?_ a_Y.out _;(with_reducible repeat (first|refine a_e ?_ _|refine a_h ?_|refine a_d ?_ _));refine a_o ?_ a_Y.out _;(with_reducible repeat (first|refine a_e ?_ _|refine a_h ?_|refine a_d ?_ _));refine a_o ?_ a_Y.out _;(with_reducible repeat (first|refine a_e ?_ _|refine a_h ?_|refine a_d ?_ _));refine a_o ?_ a_Y.out _;(with_reducible repeat (first|refine a_e ?_ _|refine a_h ?_|refine a_d ?_ _));refine a_o ?_ a_Y.out _;(with_reducible repeat (first|refine a_e ?_ _|refine a_h ?_|refine a_d ?_ _));refine a_o ?_ a_Y.out _;(with_reducible repeat (first|refine a_e ?_ _|refine a_h ?_|refine a_d ?_ _));refine a_o ?_ a_Y.out _;(with_reducible repeat (first|refine a_e ?_ _|refine a_h ?_|refine a_d ?_ _));exact c_x.out⟩,⟨by repeat (first|(with_reducible first|exact HB.out|apply a_j|apply a_f|apply a_k|refine a_i ?_ d_5.out|refine a_i ?_ h_T.out)|exact HB.out)⟩⟩
   rw [if_neg c5] at H
   have c5b0 : decide (((a_a l0_1 x3_1).f4) < 0) = false:=decide_eq_false c5
   clear c5
   have HC10:=a_g.mk H
   clear H
   have i_g : wr.cell? ⟨d_Z,0,none⟩ = some (.int .i64 a0_0):=(a_b c_x.out 0).trans rfl
   have i_h : wr.cell? ⟨d_Z,1,none⟩ = some (.slice A0_1 l0_1.length c0_1):=(a_b c_x.out 1).trans rfl
   have i_k:=a_c c_x.out 0
   have g_L:=a_c c_x.out 1
   have p219 : 0 ≤ (x3_1 : Int):=of_decide_eq_true (by first|(with_reducible assumption)|assumption)
   have q219 : x3_1 < (l0_1.length : Int):=of_decide_eq_true (by first|(with_reducible assumption)|assumption)
   obtain ⟨ad219,e219,g_e,g_f,g_g,g_h,g_i,g_j,g_k,g_l,g_m,g_n,e_0⟩:=c_e b_v.out x3_1 p219 q219
   cases e219
   replace g_e:=(HB.out.cell (World.block_lt_of_cell? w _ g_e)).trans g_e
   replace g_f:=(HB.out.cell (World.block_lt_of_cell? w _ g_f)).trans g_f
   replace g_g:=(HB.out.cell (World.block_lt_of_cell? w _ g_g)).trans g_g
   replace g_h:=(HB.out.cell (World.block_lt_of_cell? w _ g_h)).trans g_h
   replace g_i:=(HB.out.cell (World.block_lt_of_cell? w _ g_i)).trans g_i
   replace g_j:=(HB.out.cell (World.block_lt_of_cell? w _ g_j)).trans g_j
   replace g_k:=(HB.out.cell (World.block_lt_of_cell? w _ g_k)).trans g_k
   replace g_l:=(HB.out.cell (World.block_lt_of_cell? w _ g_l)).trans g_l
   replace g_m:=(HB.out.cell (World.block_lt_of_cell? w _ g_m)).trans g_m
   replace g_n:=(HB.out.cell (World.block_lt_of_cell? w _ g_n)).trans g_n
   replace e_0:=(HB.out.cell (World.block_lt_of_cell? w _ e_0)).trans e_0
   replace p219:=eq_true p219
   replace q219:=eq_true q219
   go_upto_region 6 with (first|((with_reducible refine a_G (N:=4) rfl ?_);refine a_C ?hg (N:=4) ?hd (cs:=#[.int .i64 0,.int .i64 0,.int .i64 0,.int .i64 0,.int .i64 0,.bool false,.bool false,.int .u32 0,.int .i64 0,.int .i64 0,.int .i64 0]) (t:=33) ?hr ?_;(case hd => rfl);(case hg => rfl);(case hr => first|(go_simp;done)|(go_simp;rfl));intro a_4 hg w12 hbox hb;have a_M:=a_g.mk (hbox);have p_d:=a_g.mk ((by rw [hg];exact (a_n (by repeat (first|(with_reducible first|exact HB.out|apply a_j|apply a_f|apply a_k|refine a_i ?_ d_5.out)|exact HB.out))) : w.heap.size ≤ a_4));have h_T:=a_g.mk ((by rw [hg];exact (a_n (by repeat (first|(with_reducible first|exact HB.out|apply a_j|apply a_f|apply a_k|refine a_i ?_ d_5.out)|exact HB.out))) : w.heap.size ≤ a_4));have a_Y:=a_g.mk ((by rw [hg];exact Nat.ne_of_lt (a_L (bup_ c_x.out)) : d_Z ≠ a_4));have c_I:=a_g.mk ((by rw [hg];exact Nat.ne_of_gt (a_L (bup_ c_x.out)) : a_4 ≠ d_Z));replace c_x:=a_g.mk (a_m (bup_ c_x.out) hb);replace HB:=a_g.mk (a_p (by repeat (first|(with_reducible first|exact HB.out|apply a_j|apply a_f|apply a_k|refine a_i ?_ d_5.out)|exact HB.out)) hb);clear hb hbox hg;have s_l:=c_I.out;have s_m:=a_Y.out;have f_y : w12.cell? ⟨a_4,0,none⟩ = some (.int .i64 0):=(a_b a_M.out 0).trans rfl;have f_z : w12.cell? ⟨a_4,1,none⟩ = some (.int .i64 0):=(a_b a_M.out 1).trans rfl;have f_A : w12.cell? ⟨a_4,2,none⟩ = some (.int .i64 0):=(a_b a_M.out 2).trans rfl;have f_B : w12.cell? ⟨a_4,3,none⟩ = some (.int .i64 0):=(a_b a_M.out 3).trans rfl;have f_C : w12.cell? ⟨a_4,4,none⟩ = some (.int .i64 0):=(a_b a_M.out 4).trans rfl;have f_D : w12.cell? ⟨a_4,5,none⟩ = some (.bool false):=(a_b a_M.out 5).trans rfl;have f_E : w12.cell? ⟨a_4,6,none⟩ = some (.bool false):=(a_b a_M.out 6).trans rfl;have f_F : w12.cell? ⟨a_4,7,none⟩ = some (.int .u32 0):=(a_b a_M.out 7).trans rfl;have f_G : w12.cell? ⟨a_4,8,none⟩ = some (.int .i64 0):=(a_b a_M.out 8).trans rfl;have f_H : w12.cell? ⟨a_4,9,none⟩ = some (.int .i64 0):=(a_b a_M.out 9).trans rfl;have e_P : w12.cell? ⟨a_4,10,none⟩ = some (.int .i64 0):=(a_b a_M.out 10).trans rfl;have f_I:=a_c a_M.out 0;have f_J:=a_c a_M.out 1;have f_K:=a_c a_M.out 2;have f_L:=a_c a_M.out 3;have f_M:=a_c a_M.out 4;have f_N:=a_c a_M.out 5;have f_O:=a_c a_M.out 6;have f_P:=a_c a_M.out 7;have f_Q:=a_c a_M.out 8;have f_R:=a_c a_M.out 9;have e_Q:=a_c a_M.out 10))
   repeat (go_quiet (first|((with_reducible refine a_G (N:=4) rfl ?_);refine a_C ?hg (N:=4) ?hd (cs:=#[.int .i64 0,.int .i64 0,.int .i64 0,.int .i64 0,.int .i64 0,.bool false,.bool false,.int .u32 0,.int .i64 0,.int .i64 0,.int .i64 0]) (t:=33) ?hr ?_;(case hd => rfl);(case hg => rfl);(case hr => first|(go_simp;done)|(go_simp;rfl));intro a_4 hg w12 hbox hb;have a_M:=a_g.mk (hbox);have p_d:=a_g.mk ((by rw [hg];exact (a_n (by repeat (first|(with_reducible first|exact HB.out|apply a_j|apply a_f|apply a_k|refine a_i ?_ d_5.out)|exact HB.out))) : w.heap.size ≤ a_4));have h_T:=a_g.mk ((by rw [hg];exact (a_n (by repeat (first|(with_reducible first|exact HB.out|apply a_j|apply a_f|apply a_k|refine a_i ?_ d_5.out)|exact HB.out))) : w.heap.size ≤ a_4));have a_Y:=a_g.mk ((by rw [hg];exact Nat.ne_of_lt (a_L (bup_ c_x.out)) : d_Z ≠ a_4));have c_I:=a_g.mk ((by rw [hg];exact Nat.ne_of_gt (a_L (bup_ c_x.out)) : a_4 ≠ d_Z));replace c_x:=a_g.mk (a_m (bup_ c_x.out) hb);replace HB:=a_g.mk (a_p (by repeat (first|(with_reducible first|exact HB.out|apply a_j|apply a_f|apply a_k|refine a_i ?_ d_5.out)|exact HB.out)) hb);clear hb hbox hg;have s_l:=c_I.out;have s_m:=a_Y.out;have f_y : w12.cell? ⟨a_4,0,none⟩ = some (.int .i64 0):=(a_b a_M.out 0).trans rfl;have f_z : w12.cell? ⟨a_4,1,none⟩ = some (.int .i64 0):=(a_b a_M.out 1).trans rfl;have f_A : w12.cell? ⟨a_4,2,none⟩ = some (.int .i64 0):=(a_b a_M.out 2).trans rfl;have f_B : w12.cell? ⟨a_4,3,none⟩ = some (.int .i64 0):=(a_b a_M.out 3).trans rfl;have f_C : w12.cell? ⟨a_4,4,none⟩ = some (.int .i64 0):=(a_b a_M.out 4).trans rfl;have f_D : w12.cell? ⟨a_4,5,none⟩ = some (.bool false):=(a_b a_M.out 5).trans rfl;have f_E : w12.cell? ⟨a_4,6,none⟩ = some (.bool false):=(a_b a_M.out 6).trans rfl;have f_F : w12.cell? ⟨a_4,7,none⟩ = some (.int .u32 0):=(a_b a_M.out 7).trans rfl;have f_G : w12.cell? ⟨a_4,8,none⟩ = some (.int .i64 0):=(a_b a_M.out 8).trans rfl;have f_H : w12.cell? ⟨a_4,9,none⟩ = some (.int .i64 0):=(a_b a_M.out 9).trans rfl;have e_P : w12.cell? ⟨a_4,10,none⟩ = some (.int .i64 0):=(a_b a_M.out 10).trans rfl;have f_I:=a_c a_M.out 0;have f_J:=a_c a_M.out 1;have f_K:=a_c a_M.out 2;have f_L:=a_c a_M.out 3;have f_M:=a_c a_M.out 4;have f_N:=a_c a_M.out 5;have f_O:=a_c a_M.out 6;have f_P:=a_c a_M.out 7;have f_Q:=a_c a_M.out 8;have f_R:=a_c a_M.out 9;have e_Q:=a_c a_M.out 10));go_upto_region 6 with (first|((with_reducible refine a_G (N:=4) rfl ?_);refine a_C ?hg (N:=4) ?hd (cs:=#[.int .i64 0,.int .i64 0,.int .i64 0,.int .i64 0,.int .i64 0,.bool false,.bool false,.int .u32 0,.int .i64 0,.int .i64 0,.int .i64 0]) (t:=33) ?hr ?_;(case hd => rfl);(case hg => rfl);(case hr => first|(go_simp;done)|(go_simp;rfl));intro a_4 hg w12 hbox hb;have a_M:=a_g.mk (hbox);have p_d:=a_g.mk ((by rw [hg];exact (a_n (by repeat (first|(with_reducible first|exact HB.out|apply a_j|apply a_f|apply a_k|refine a_i ?_ d_5.out)|exact HB.out))) : w.heap.size ≤ a_4));have h_T:=a_g.mk ((by rw [hg];exact (a_n (by repeat (first|(with_reducible first|exact HB.out|apply a_j|apply a_f|apply a_k|refine a_i ?_ d_5.out)|exact HB.out))) : w.heap.size ≤ a_4));have a_Y:=a_g.mk ((by rw [hg];exact Nat.ne_of_lt (a_L (bup_ c_x.out)) : d_Z ≠ a_4));have c_I:=a_g.mk ((by rw [hg];exact Nat.ne_of_gt (a_L (bup_ c_x.out)) : a_4 ≠ d_Z));replace c_x:=a_g.mk (a_m (bup_ c_x.out) hb);replace HB:=a_g.mk (a_p (by repeat (first|(with_reducible first|exact HB.out|apply a_j|apply a_f|apply a_k|refine a_i ?_ d_5.out)|exact HB.out)) hb);clear hb hbox hg;have s_l:=c_I.out;have s_m:=a_Y.out;have f_y : w12.cell? ⟨a_4,0,none⟩ = some (.int .i64 0):=(a_b a_M.out 0).trans rfl;have f_z : w12.cell? ⟨a_4,1,none⟩ = some (.int .i64 0):=(a_b a_M.out 1).trans rfl;have f_A : w12.cell? ⟨a_4,2,none⟩ = some (.int .i64 0):=(a_b a_M.out 2).trans rfl;have f_B : w12.cell? ⟨a_4,3,none⟩ = some (.int .i64 0):=(a_b a_M.out 3).trans rfl;have f_C : w12.cell? ⟨a_4,4,none⟩ = some (.int .i64 0):=(a_b a_M.out 4).trans rfl;have f_D : w12.cell? ⟨a_4,5,none⟩ = some (.bool false):=(a_b a_M.out 5).trans rfl;have f_E : w12.cell? ⟨a_4,6,none⟩ = some (.bool false):=(a_b a_M.out 6).trans rfl;have f_F : w12.cell? ⟨a_4,7,none⟩ = some (.int .u32 0):=(a_b a_M.out 7).trans rfl;have f_G : w12.cell? ⟨a_4,8,none⟩ = some (.int .i64 0):=(a_b a_M.out 8).trans rfl;have f_H : w12.cell? ⟨a_4,9,none⟩ = some (.int .i64 0):=(a_b a_M.out 9).trans rfl;have e_P : w12.cell? ⟨a_4,10,none⟩ = some (.int .i64 0):=(a_b a_M.out 10).trans rfl;have f_I:=a_c a_M.out 0;have f_J:=a_c a_M.out 1;have f_K:=a_c a_M.out 2;have f_L:=a_c a_M.out 3;have f_M:=a_c a_M.out 4;have f_N:=a_c a_M.out 5;have f_O:=a_c a_M.out 6;have f_P:=a_c a_M.out 7;have f_Q:=a_c a_M.out 8;have f_R:=a_c a_M.out 9;have e_Q:=a_c a_M.out 10)))
   (try simp only [Act.put,sa_,sb_,sc_])
   go_cut [35] (fun v35 wc => ∃ (kq : Nat) (x35_9 : Bool),v35 = .bool x35_9 ∧ a_g (a_q.j1 kq x3_1 x35_9 a0_0 l0_1 ((a_a l0_1 x3_1).f0) ((a_a l0_1 x3_1).f1) ((a_a l0_1 x3_1).f2) ((a_a l0_1 x3_1).f3) ((a_a l0_1 x3_1).f4) ((a_a l0_1 x3_1).f5) ((a_a l0_1 x3_1).f6) ((a_a l0_1 x3_1).f7) ((a_a l0_1 x3_1).f8) ((a_a l0_1 x3_1).f9) ((a_a l0_1 x3_1).f10) = some r) ∧ a_g (kq ≤ k1) ∧ a_g (wc.heap[d_Z]? = some (.cells #[.int .i64 a0_0,(.slice (some ad219) l0_1.length c0_1)] 24 (0,0))) ∧ a_g (wc.heap[a_4]? = some (.cells #[.int .i64 ((a_a l0_1 x3_1).f0),.int .i64 ((a_a l0_1 x3_1).f1),.int .i64 ((a_a l0_1 x3_1).f2),.int .i64 ((a_a l0_1 x3_1).f3),.int .i64 ((a_a l0_1 x3_1).f4),.bool ((a_a l0_1 x3_1).f5),.bool ((a_a l0_1 x3_1).f6),.int .u32 ((a_a l0_1 x3_1).f7),.int .i64 ((a_a l0_1 x3_1).f8),.int .i64 ((a_a l0_1 x3_1).f9),.int .i64 ((a_a l0_1 x3_1).f10)] 33 (0,0))) ∧ a_g (Below w.heap.size w wc))
   case first =>
    have H:=HC10.out
    clear HC10
    obtain ⟨bq15,hbq15⟩ : ∃ b_ : Bool,b_ = ((a_a l0_1 x3_1).f5):=⟨_,rfl⟩
    replace H : (if (bq15 = true) then (if (a_a l0_1 x3_1).f6 = true then (a_q.j1 k1 x3_1 true a0_0 l0_1 ((a_a l0_1 x3_1).f0) ((a_a l0_1 x3_1).f1) ((a_a l0_1 x3_1).f2) ((a_a l0_1 x3_1).f3) ((a_a l0_1 x3_1).f4) bq15 ((a_a l0_1 x3_1).f6) ((a_a l0_1 x3_1).f7) ((a_a l0_1 x3_1).f8) ((a_a l0_1 x3_1).f9) ((a_a l0_1 x3_1).f10)) else ((a_2.f ((a_a l0_1 x3_1).f7) ((a_a l0_1 x3_1).f4)).bind fun t221 => (a_q.j1 k1 x3_1 (!t221) a0_0 l0_1 ((a_a l0_1 x3_1).f0) ((a_a l0_1 x3_1).f1) ((a_a l0_1 x3_1).f2) ((a_a l0_1 x3_1).f3) ((a_a l0_1 x3_1).f4) bq15 ((a_a l0_1 x3_1).f6) ((a_a l0_1 x3_1).f7) ((a_a l0_1 x3_1).f8) ((a_a l0_1 x3_1).f9) ((a_a l0_1 x3_1).f10)))) else (a_q.j1 k1 x3_1 true a0_0 l0_1 ((a_a l0_1 x3_1).f0) ((a_a l0_1 x3_1).f1) ((a_a l0_1 x3_1).f2) ((a_a l0_1 x3_1).f3) ((a_a l0_1 x3_1).f4) bq15 ((a_a l0_1 x3_1).f6) ((a_a l0_1 x3_1).f7) ((a_a l0_1 x3_1).f8) ((a_a l0_1 x3_1).f9) ((a_a l0_1 x3_1).f10))) = some r:=by rw [← hbq15] at H;exact H
    have Nbq15:=a_g.mk hbq15
    clear hbq15
    (try rw [← Nbq15.out])
    by_cases c16 : (bq15 = true)
    rotate_left
    ·replace c16:=Bool.eq_false_iff.mpr c16
     subst c16
     have hq280_:=Nbq15.out.symm
     have H1 : (a_q.j1 k1 x3_1 true a0_0 l0_1 ((a_a l0_1 x3_1).f0) ((a_a l0_1 x3_1).f1) ((a_a l0_1 x3_1).f2) ((a_a l0_1 x3_1).f3) ((a_a l0_1 x3_1).f4) false ((a_a l0_1 x3_1).f6) ((a_a l0_1 x3_1).f7) ((a_a l0_1 x3_1).f8) ((a_a l0_1 x3_1).f9) ((a_a l0_1 x3_1).f10)) = some r:=by rw [if_neg (show ¬ (false = true) by decide)] at H;exact H
     clear H
     have H:=H1
     clear H1
     have H':=a_g.mk H
     clear H
     have y_b:=c_I.out
     have y_i:=a_Y.out
     have f_7 : w12.cell? ⟨a_4,0,none⟩ = some (.int .i64 0):=(a_b a_M.out 0).trans rfl
     have f_8 : w12.cell? ⟨a_4,1,none⟩ = some (.int .i64 0):=(a_b a_M.out 1).trans rfl
     have g_C : w12.cell? ⟨a_4,2,none⟩ = some (.int .i64 0):=(a_b a_M.out 2).trans rfl
     have g_D : w12.cell? ⟨a_4,3,none⟩ = some (.int .i64 0):=(a_b a_M.out 3).trans rfl
     have g_E : w12.cell? ⟨a_4,4,none⟩ = some (.int .i64 0):=(a_b a_M.out 4).trans rfl
     have g_F : w12.cell? ⟨a_4,5,none⟩ = some (.bool false):=(a_b a_M.out 5).trans rfl
     have g_G : w12.cell? ⟨a_4,6,none⟩ = some (.bool false):=(a_b a_M.out 6).trans rfl
     have g_H : w12.cell? ⟨a_4,7,none⟩ = some (.int .u32 0):=(a_b a_M.out 7).trans rfl
     have g_I : w12.cell? ⟨a_4,8,none⟩ = some (.int .i64 0):=(a_b a_M.out 8).trans rfl
     have g_J : w12.cell? ⟨a_4,9,none⟩ = some (.int .i64 0):=(a_b a_M.out 9).trans rfl
     have f_v : w12.cell? ⟨a_4,10,none⟩ = some (.int .i64 0):=(a_b a_M.out 10).trans rfl
     have f_9:=a_c a_M.out 0
     have g_a:=a_c a_M.out 1
     have g_N:=a_c a_M.out 2
     have g_O:=a_c a_M.out 3
     have g_P:=a_c a_M.out 4
     have g_Q:=a_c a_M.out 5
     have g_R:=a_c a_M.out 6
     have g_S:=a_c a_M.out 7
     have g_T:=a_c a_M.out 8
     have g_U:=a_c a_M.out 9
     have f_w:=a_c a_M.out 10
     go_wp2
     repeat (go_quiet (fail);try go_wp2)
     go_meet
     case rel => (try rw [← Nbq15.out]);exact ⟨_,(true),(by first|rfl|(simp;done)|(simp [*];done)),H',⟨by have:=HK1.out;first|omega|exact Nat.le_refl _⟩,⟨by (with_reducible repeat (first|refine a_e ?_ _|refine a_h ?_|refine a_d ?_ _));refine a_o ?_ a_Y.out _;(with_reducible repeat (first|refine a_e ?_ _|refine a_h ?_|refine a_d ?_ _));refine a_o ?_ a_Y.out _;(with_reducible repeat (first|refine a_e ?_ _|refine a_h ?_|refine a_d ?_ _));refine a_o ?_ a_Y.out _;(with_reducible repeat (first|refine a_e ?_ _|refine a_h ?_|refine a_d ?_ _));refine a_o ?_ a_Y.out _;(with_reducible repeat (first|refine a_e ?_ _|refine a_h ?_|refine a_d ?_ _));refine a_o ?_ a_Y.out _;(with_reducible repeat (first|refine a_e ?_ _|refine a_h ?_|refine a_d ?_ _));refine a_o ?_ a_Y.out _;(with_reducible repeat (first|refine a_e ?_ _|refine a_h ?_|refine a_d ?_ _));refine a_o ?_ a_Y.out _;(with_reducible repeat (first|refine a_e ?_ _|refine a_h ?_|refine a_d ?_ _));refine a_o ?_ a_Y.out _;(with_reducible repeat (first|refine a_e ?_ _|refine a_h ?_|refine a_d ?_ _));refine a_o ?_ a_Y.out _;(with_reducible repeat (first|refine a_e ?_ _|refine a_h ?_|refine a_d ?_ _));refine a_o ?_ a_Y.out _;(with_reducible repeat (first|refine a_e ?_ _|refine a_h ?_|refine a_d ?_ _));refine a_o ?_ a_Y.out _;(with_reducible repeat (first|refine a_e ?_ _|refine a_h ?_|refine a_d ?_ _));exact c_x.out⟩,⟨by (with_reducible repeat (first|refine a_e ?_ _|refine a_h ?_|refine a_d ?_ _));refine a_r (cs:=#[.int .i64 ((a_a l0_1 x3_1).f0),.int .i64 ((a_a l0_1 x3_1).f1),.int .i64 ((a_a l0_1 x3_1).f2),.int .i64 ((a_a l0_1 x3_1).f3),.int .i64 ((a_a l0_1 x3_1).f4),.bool (false),.bool ((a_a l0_1 x3_1).f6),.int .u32 ((a_a l0_1 x3_1).f7),.int .i64 ((a_a l0_1 x3_1).f8),.int .i64 ((a_a l0_1 x3_1).f9),.int .i64 0]) ?_ 10 _ rfl;(with_reducible repeat (first|refine a_e ?_ _|refine a_h ?_|refine a_d ?_ _));refine a_r (cs:=#[.int .i64 ((a_a l0_1 x3_1).f0),.int .i64 ((a_a l0_1 x3_1).f1),.int .i64 ((a_a l0_1 x3_1).f2),.int .i64 ((a_a l0_1 x3_1).f3),.int .i64 ((a_a l0_1 x3_1).f4),.bool (false),.bool ((a_a l0_1 x3_1).f6),.int .u32 ((a_a l0_1 x3_1).f7),.int .i64 ((a_a l0_1 x3_1).f8),.int .i64 0,.int .i64 0]) ?_ 9 _ rfl;(with_reducible repeat (first|refine a_e ?_ _|refine a_h ?_|refine a_d ?_ _));refine a_r (cs:=#[.int .i64 ((a_a l0_1 x3_1).f0),.int .i64 ((a_a l0_1 x3_1).f1),.int .i64 ((a_a l0_1 x3_1).f2),.int .i64 ((a_a l0_1 x3_1).f3),.int .i64 ((a_a l0_1 x3_1).f4),.bool (false),.bool ((a_a l0_1 x3_1).f6),.int .u32 ((a_a l0_1 x3_1).f7),.int .i64 0,.int .i64 0,.int .i64 0]) ?_ 8 _ rfl;(with_reducible repeat (first|refine a_e ?_ _|refine a_h ?_|refine a_d ?_ _));refine a_r (cs:=#[.int .i64 ((a_a l0_1 x3_1).f0),.int .i64 ((a_a l0_1 x3_1).f1),.int .i64 ((a_a l0_1 x3_1).f2),.int .i64 ((a_a l0_1 x3_1).f3),.int .i64 ((a_a l0_1 x3_1).f4),.bool (false),.bool ((a_a l0_1 x3_1).f6),.int .u32 0,.int .i64 0,.int .i64 0,.int .i64 0]) ?_ 7 _ rfl;(with_reducible repeat (first|refine a_e ?_ _|refine a_h ?_|refine a_d ?_ _));refine a_r (cs:=#[.int .i64 ((a_a l0_1 x3_1).f0),.int .i64 ((a_a l0_1 x3_1).f1),.int .i64 ((a_a l0_1 x3_1).f2),.int .i64 ((a_a l0_1 x3_1).f3),.int .i64 ((a_a l0_1 x3_1).f4),.bool (false),.bool false,.int .u32 0,.int .i64 0,.int .i64 0,.int .i64 0]) ?_ 6 _ rfl;(with_reducible repeat (first|refine a_e ?_ _|refine a_h ?_|refine a_d ?_ _));refine a_r (cs:=#[.int .i64 ((a_a l0_1 x3_1).f0),.int .i64 ((a_a l0_1 x3_1).f1),.int .i64 ((a_a l0_1 x3_1).f2),.int .i64 ((a_a l0_1 x3_1).f3),.int .i64 ((a_a l0_1 x3_1).f4),.bool false,.bool false,.int .u32 0,.int .i64 0,.int .i64 0,.int .i64 0]) ?_ 5 _ rfl;(with_reducible repeat (first|refine a_e ?_ _|refine a_h ?_|refine a_d ?_ _));refine a_r (cs:=#[.int .i64 ((a_a l0_1 x3_1).f0),.int .i64 ((a_a l0_1 x3_1).f1),.int .i64 ((a_a l0_1 x3_1).f2),.int .i64 ((a_a l0_1 x3_1).f3),.int .i64 0,.bool false,.bool false,.int .u32 0,.int .i64 0,.int .i64 0,.int .i64 0]) ?_ 4 _ rfl;(with_reducible repeat (first|refine a_e ?_ _|refine a_h ?_|refine a_d ?_ _));refine a_r (cs:=#[.int .i64 ((a_a l0_1 x3_1).f0),.int .i64 ((a_a l0_1 x3_1).f1),.int .i64 ((a_a l0_1 x3_1).f2),.int .i64 0,.int .i64 0,.bool false,.bool false,.int .u32 0,.int .i64 0,.int .i64 0,.int .i64 0]) ?_ 3 _ rfl;(with_reducible repeat (first|refine a_e ?_ _|refine a_h ?_|refine a_d ?_ _));refine a_r (cs:=#[.int .i64 ((a_a l0_1 x3_1).f0),.int .i64 ((a_a l0_1 x3_1).f1),.int .i64 0,.int .i64 0,.int .i64 0,.bool false,.bool false,.int .u32 0,.int .i64 0,.int .i64 0,.int .i64 0]) ?_ 2 _ rfl;(with_reducible repeat (first|refine a_e ?_ _|refine a_h ?_|refine a_d ?_ _));refine a_r (cs:=#[.int .i64 ((a_a l0_1 x3_1).f0),.int .i64 0,.int .i64 0,.int .i64 0,.int .i64 0,.bool false,.bool false,.int .u32 0,.int .i64 0,.int .i64 0,.int .i64 0]) ?_ 1 _ rfl;(with_reducible repeat (first|refine a_e ?_ _|refine a_h ?_|refine a_d ?_ _));refine a_r (cs:=#[.int .i64 0,.int .i64 0,.int .i64 0,.int .i64 0,.int .i64 0,.bool false,.bool false,.int .u32 0,.int .i64 0,.int .i64 0,.int .i64 0]) ?_ 0 _ rfl;(with_reducible repeat (first|refine a_e ?_ _|refine a_h ?_|refine a_d ?_ _));exact a_M.out⟩,⟨by repeat (first|(with_reducible first|exact HB.out|apply a_j|apply a_f|apply a_k|refine a_i ?_ d_5.out|refine a_i ?_ h_T.out)|exact HB.out)⟩⟩
    subst c16
    have hq193_:=Nbq15.out.symm
    have H1 : (if (a_a l0_1 x3_1).f6 = true then (a_q.j1 k1 x3_1 true a0_0 l0_1 ((a_a l0_1 x3_1).f0) ((a_a l0_1 x3_1).f1) ((a_a l0_1 x3_1).f2) ((a_a l0_1 x3_1).f3) ((a_a l0_1 x3_1).f4) true ((a_a l0_1 x3_1).f6) ((a_a l0_1 x3_1).f7) ((a_a l0_1 x3_1).f8) ((a_a l0_1 x3_1).f9) ((a_a l0_1 x3_1).f10)) else ((a_2.f ((a_a l0_1 x3_1).f7) ((a_a l0_1 x3_1).f4)).bind fun t221 => (a_q.j1 k1 x3_1 (!t221) a0_0 l0_1 ((a_a l0_1 x3_1).f0) ((a_a l0_1 x3_1).f1) ((a_a l0_1 x3_1).f2) ((a_a l0_1 x3_1).f3) ((a_a l0_1 x3_1).f4) true ((a_a l0_1 x3_1).f6) ((a_a l0_1 x3_1).f7) ((a_a l0_1 x3_1).f8) ((a_a l0_1 x3_1).f9) ((a_a l0_1 x3_1).f10)))) = some r:=by rw [if_pos rfl] at H;exact H
    clear H
    have H:=H1
    clear H1
    obtain ⟨bq17,hbq17⟩ : ∃ b_ : Bool,b_ = ((a_a l0_1 x3_1).f6):=⟨_,rfl⟩
    replace H : (if bq17 = true then (a_q.j1 k1 x3_1 true a0_0 l0_1 ((a_a l0_1 x3_1).f0) ((a_a l0_1 x3_1).f1) ((a_a l0_1 x3_1).f2) ((a_a l0_1 x3_1).f3) ((a_a l0_1 x3_1).f4) true bq17 ((a_a l0_1 x3_1).f7) ((a_a l0_1 x3_1).f8) ((a_a l0_1 x3_1).f9) ((a_a l0_1 x3_1).f10)) else ((a_2.f ((a_a l0_1 x3_1).f7) ((a_a l0_1 x3_1).f4)).bind fun t221 => (a_q.j1 k1 x3_1 (!t221) a0_0 l0_1 ((a_a l0_1 x3_1).f0) ((a_a l0_1 x3_1).f1) ((a_a l0_1 x3_1).f2) ((a_a l0_1 x3_1).f3) ((a_a l0_1 x3_1).f4) true bq17 ((a_a l0_1 x3_1).f7) ((a_a l0_1 x3_1).f8) ((a_a l0_1 x3_1).f9) ((a_a l0_1 x3_1).f10)))) = some r:=by rw [← hbq17] at H;exact H
    have Nbq17:=a_g.mk hbq17
    clear hbq17
    by_cases c18 : bq17 = true
    ·subst c18
     have hq203_:=Nbq17.out.symm
     have H1 : (a_q.j1 k1 x3_1 true a0_0 l0_1 ((a_a l0_1 x3_1).f0) ((a_a l0_1 x3_1).f1) ((a_a l0_1 x3_1).f2) ((a_a l0_1 x3_1).f3) ((a_a l0_1 x3_1).f4) true true ((a_a l0_1 x3_1).f7) ((a_a l0_1 x3_1).f8) ((a_a l0_1 x3_1).f9) ((a_a l0_1 x3_1).f10)) = some r:=by rw [if_pos rfl] at H;exact H
     clear H
     have H:=H1
     clear H1
     have H':=a_g.mk H
     clear H
     have x_8:=c_I.out
     have y_f:=a_Y.out
     have g_B : w12.cell? ⟨a_4,0,none⟩ = some (.int .i64 0):=(a_b a_M.out 0).trans rfl
     have h_a : w12.cell? ⟨a_4,1,none⟩ = some (.int .i64 0):=(a_b a_M.out 1).trans rfl
     have m_K : w12.cell? ⟨a_4,2,none⟩ = some (.int .i64 0):=(a_b a_M.out 2).trans rfl
     have m_L : w12.cell? ⟨a_4,3,none⟩ = some (.int .i64 0):=(a_b a_M.out 3).trans rfl
     have m_M : w12.cell? ⟨a_4,4,none⟩ = some (.int .i64 0):=(a_b a_M.out 4).trans rfl
     have m_N : w12.cell? ⟨a_4,5,none⟩ = some (.bool false):=(a_b a_M.out 5).trans rfl
     have m_O : w12.cell? ⟨a_4,6,none⟩ = some (.bool false):=(a_b a_M.out 6).trans rfl
     have m_P : w12.cell? ⟨a_4,7,none⟩ = some (.int .u32 0):=(a_b a_M.out 7).trans rfl
     have m_Q : w12.cell? ⟨a_4,8,none⟩ = some (.int .i64 0):=(a_b a_M.out 8).trans rfl
     have m_R : w12.cell? ⟨a_4,9,none⟩ = some (.int .i64 0):=(a_b a_M.out 9).trans rfl
     have k_h : w12.cell? ⟨a_4,10,none⟩ = some (.int .i64 0):=(a_b a_M.out 10).trans rfl
     have g_M:=a_c a_M.out 0
     have h_i:=a_c a_M.out 1
     have n_h:=a_c a_M.out 2
     have n_i:=a_c a_M.out 3
     have n_j:=a_c a_M.out 4
     have n_k:=a_c a_M.out 5
     have n_l:=a_c a_M.out 6
     have n_m:=a_c a_M.out 7
     have n_n:=a_c a_M.out 8
     have n_o:=a_c a_M.out 9
     have k_L:=a_c a_M.out 10
     go_wp2
     repeat (go_quiet (fail);try go_wp2)
     go_meet
     case rel => (try rw [← Nbq15.out]);(try rw [← Nbq17.out]);exact ⟨_,(true),(by first|rfl|(simp;done)|(simp [*];done)),H',⟨by have:=HK1.out;first|omega|exact Nat.le_refl _⟩,⟨by (with_reducible repeat (first|refine a_e ?_ _|refine a_h ?_|refine a_d ?_ _));refine a_o ?_ a_Y.out _;(with_reducible repeat (first|refine a_e ?_ _|refine a_h ?_|refine a_d ?_ _));refine a_o ?_ a_Y.out _;(with_reducible repeat (first|refine a_e ?_ _|refine a_h ?_|refine a_d ?_ _));refine a_o ?_ a_Y.out _;(with_reducible repeat (first|refine a_e ?_ _|refine a_h ?_|refine a_d ?_ _));refine a_o ?_ a_Y.out _;(with_reducible repeat (first|refine a_e ?_ _|refine a_h ?_|refine a_d ?_ _));refine a_o ?_ a_Y.out _;(with_reducible repeat (first|refine a_e ?_ _|refine a_h ?_|refine a_d ?_ _));refine a_o ?_ a_Y.out _;(with_reducible repeat (first|refine a_e ?_ _|refine a_h ?_|refine a_d ?_ _));refine a_o ?_ a_Y.out _;(with_reducible repeat (first|refine a_e ?_ _|refine a_h ?_|refine a_d ?_ _));refine a_o ?_ a_Y.out _;(with_reducible repeat (first|refine a_e ?_ _|refine a_h ?_|refine a_d ?_ _));refine a_o ?_ a_Y.out _;(with_reducible repeat (first|refine a_e ?_ _|refine a_h ?_|refine a_d ?_ _));refine a_o ?_ a_Y.out _;(with_reducible repeat (first|refine a_e ?_ _|refine a_h ?_|refine a_d ?_ _));refine a_o ?_ a_Y.out _;(with_reducible repeat (first|refine a_e ?_ _|refine a_h ?_|refine a_d ?_ _));exact c_x.out⟩,⟨by (with_reducible repeat (first|refine a_e ?_ _|refine a_h ?_|refine a_d ?_ _));refine a_r (cs:=#[.int .i64 ((a_a l0_1 x3_1).f0),.int .i64 ((a_a l0_1 x3_1).f1),.int .i64 ((a_a l0_1 x3_1).f2),.int .i64 ((a_a l0_1 x3_1).f3),.int .i64 ((a_a l0_1 x3_1).f4),.bool (true),.bool (true),.int .u32 ((a_a l0_1 x3_1).f7),.int .i64 ((a_a l0_1 x3_1).f8),.int .i64 ((a_a l0_1 x3_1).f9),.int .i64 0]) ?_ 10 _ rfl;(with_reducible repeat (first|refine a_e ?_ _|refine a_h ?_|refine a_d ?_ _));refine a_r (cs:=#[.int .i64 ((a_a l0_1 x3_1).f0),.int .i64 ((a_a l0_1 x3_1).f1),.int .i64 ((a_a l0_1 x3_1).f2),.int .i64 ((a_a l0_1 x3_1).f3),.int .i64 ((a_a l0_1 x3_1).f4),.bool (true),.bool (true),.int .u32 ((a_a l0_1 x3_1).f7),.int .i64 ((a_a l0_1 x3_1).f8),.int .i64 0,.int .i64 0]) ?_ 9 _ rfl;(with_reducible repeat (first|refine a_e ?_ _|refine a_h ?_|refine a_d ?_ _));refine a_r (cs:=#[.int .i64 ((a_a l0_1 x3_1).f0),.int .i64 ((a_a l0_1 x3_1).f1),.int .i64 ((a_a l0_1 x3_1).f2),.int .i64 ((a_a l0_1 x3_1).f3),.int .i64 ((a_a l0_1 x3_1).f4),.bool (true),.bool (true),.int .u32 ((a_a l0_1 x3_1).f7),.int .i64 0,.int .i64 0,.int .i64 0]) ?_ 8 _ rfl;(with_reducible repeat (first|refine a_e ?_ _|refine a_h ?_|refine a_d ?_ _));refine a_r (cs:=#[.int .i64 ((a_a l0_1 x3_1).f0),.int .i64 ((a_a l0_1 x3_1).f1),.int .i64 ((a_a l0_1 x3_1).f2),.int .i64 ((a_a l0_1 x3_1).f3),.int .i64 ((a_a l0_1 x3_1).f4),.bool (true),.bool (true),.int .u32 0,.int .i64 0,.int .i64 0,.int .i64 0]) ?_ 7 _ rfl;(with_reducible repeat (first|refine a_e ?_ _|refine a_h ?_|refine a_d ?_ _));refine a_r (cs:=#[.int .i64 ((a_a l0_1 x3_1).f0),.int .i64 ((a_a l0_1 x3_1).f1),.int .i64 ((a_a l0_1 x3_1).f2),.int .i64 ((a_a l0_1 x3_1).f3),.int .i64 ((a_a l0_1 x3_1).f4),.bool (true),.bool false,.int .u32 0,.int .i64 0,.int .i64 0,.int .i64 0]) ?_ 6 _ rfl;(with_reducible repeat (first|refine a_e ?_ _|refine a_h ?_|refine a_d ?_ _));refine a_r (cs:=#[.int .i64 ((a_a l0_1 x3_1).f0),.int .i64 ((a_a l0_1 x3_1).f1),.int .i64 ((a_a l0_1 x3_1).f2),.int .i64 ((a_a l0_1 x3_1).f3),.int .i64 ((a_a l0_1 x3_1).f4),.bool false,.bool false,.int .u32 0,.int .i64 0,.int .i64 0,.int .i64 0]) ?_ 5 _ rfl;(with_reducible repeat (first|refine a_e ?_ _|refine a_h ?_|refine a_d ?_ _));refine a_r (cs:=#[.int .i64 ((a_a l0_1 x3_1).f0),.int .i64 ((a_a l0_1 x3_1).f1),.int .i64 ((a_a l0_1 x3_1).f2),.int .i64 ((a_a l0_1 x3_1).f3),.int .i64 0,.bool false,.bool false,.int .u32 0,.int .i64 0,.int .i64 0,.int .i64 0]) ?_ 4 _ rfl;(with_reducible repeat (first|refine a_e ?_ _|refine a_h ?_|refine a_d ?_ _));refine a_r (cs:=#[.int .i64 ((a_a l0_1 x3_1).f0),.int .i64 ((a_a l0_1 x3_1).f1),.int .i64 ((a_a l0_1 x3_1).f2),.int .i64 0,.int .i64 0,.bool false,.bool false,.int .u32 0,.int .i64 0,.int .i64 0,.int .i64 0]) ?_ 3 _ rfl;(with_reducible repeat (first|refine a_e ?_ _|refine a_h ?_|refine a_d ?_ _));refine a_r (cs:=#[.int .i64 ((a_a l0_1 x3_1).f0),.int .i64 ((a_a l0_1 x3_1).f1),.int .i64 0,.int .i64 0,.int .i64 0,.bool false,.bool false,.int .u32 0,.int .i64 0,.int .i64 0,.int .i64 0]) ?_ 2 _ rfl;(with_reducible repeat (first|refine a_e ?_ _|refine a_h ?_|refine a_d ?_ _));refine a_r (cs:=#[.int .i64 ((a_a l0_1 x3_1).f0),.int .i64 0,.int .i64 0,.int .i64 0,.int .i64 0,.bool false,.bool false,.int .u32 0,.int .i64 0,.int .i64 0,.int .i64 0]) ?_ 1 _ rfl;(with_reducible repeat (first|refine a_e ?_ _|refine a_h ?_|refine a_d ?_ _));refine a_r (cs:=#[.int .i64 0,.int .i64 0,.int .i64 0,.int .i64 0,.int .i64 0,.bool false,.bool false,.int .u32 0,.int .i64 0,.int .i64 0,.int .i64 0]) ?_ 0 _ rfl;(with_reducible repeat (first|refine a_e ?_ _|refine a_h ?_|refine a_d ?_ _));exact a_M.out⟩,⟨by repeat (first|(with_reducible first|exact HB.out|apply a_j|apply a_f|apply a_k|refine a_i ?_ d_5.out|refine a_i ?_ h_T.out)|exact HB.out)⟩⟩
    replace c18:=Bool.eq_false_iff.mpr c18
    subst c18
    have hq239_:=Nbq17.out.symm
    have H1 : ((a_2.f ((a_a l0_1 x3_1).f7) ((a_a l0_1 x3_1).f4)).bind fun t221 => (a_q.j1 k1 x3_1 (!t221) a0_0 l0_1 ((a_a l0_1 x3_1).f0) ((a_a l0_1 x3_1).f1) ((a_a l0_1 x3_1).f2) ((a_a l0_1 x3_1).f3) ((a_a l0_1 x3_1).f4) true false ((a_a l0_1 x3_1).f7) ((a_a l0_1 x3_1).f8) ((a_a l0_1 x3_1).f9) ((a_a l0_1 x3_1).f10))) = some r:=by rw [if_neg (show ¬ (false = true) by decide)] at H;exact H
    clear H
    have H:=H1
    clear H1
    replace H:=Option.bind_eq_some_iff.mp H
    obtain ⟨t221,A210,H⟩:=H
    replace H : (a_q.j1 k1 x3_1 (!t221) a0_0 l0_1 ((a_a l0_1 x3_1).f0) ((a_a l0_1 x3_1).f1) ((a_a l0_1 x3_1).f2) ((a_a l0_1 x3_1).f3) ((a_a l0_1 x3_1).f4) true false ((a_a l0_1 x3_1).f7) ((a_a l0_1 x3_1).f8) ((a_a l0_1 x3_1).f9) ((a_a l0_1 x3_1).f10)) = some r:=H
    have A21:=a_g.mk A210
    clear A210
    have H':=a_g.mk H
    clear H
    have y_a:=c_I.out
    have y_h:=a_Y.out
    have h_b : w12.cell? ⟨a_4,0,none⟩ = some (.int .i64 0):=(a_b a_M.out 0).trans rfl
    have h_d : w12.cell? ⟨a_4,1,none⟩ = some (.int .i64 0):=(a_b a_M.out 1).trans rfl
    have k_k : w12.cell? ⟨a_4,2,none⟩ = some (.int .i64 0):=(a_b a_M.out 2).trans rfl
    have k_l : w12.cell? ⟨a_4,3,none⟩ = some (.int .i64 0):=(a_b a_M.out 3).trans rfl
    have k_m : w12.cell? ⟨a_4,4,none⟩ = some (.int .i64 0):=(a_b a_M.out 4).trans rfl
    have k_n : w12.cell? ⟨a_4,5,none⟩ = some (.bool false):=(a_b a_M.out 5).trans rfl
    have k_o : w12.cell? ⟨a_4,6,none⟩ = some (.bool false):=(a_b a_M.out 6).trans rfl
    have k_p : w12.cell? ⟨a_4,7,none⟩ = some (.int .u32 0):=(a_b a_M.out 7).trans rfl
    have k_q : w12.cell? ⟨a_4,8,none⟩ = some (.int .i64 0):=(a_b a_M.out 8).trans rfl
    have k_r : w12.cell? ⟨a_4,9,none⟩ = some (.int .i64 0):=(a_b a_M.out 9).trans rfl
    have i_D : w12.cell? ⟨a_4,10,none⟩ = some (.int .i64 0):=(a_b a_M.out 10).trans rfl
    have h_j:=a_c a_M.out 0
    have h_k:=a_c a_M.out 1
    have k_O:=a_c a_M.out 2
    have k_P:=a_c a_M.out 3
    have k_Q:=a_c a_M.out 4
    have k_R:=a_c a_M.out 5
    have k_S:=a_c a_M.out 6
    have k_T:=a_c a_M.out 7
    have k_U:=a_c a_M.out 8
    have k_V:=a_c a_M.out 9
    have i_F:=a_c a_M.out 10
    go_wp2_with (first|(go_at_call 27;(with_reducible refine (a_2.calls ((a_a l0_1 x3_1).f7) ((a_a l0_1 x3_1).f4) t221 _ A21.out).mono ?_);rintro e w' ⟨rfl,⟨nd,rfl⟩⟩;(try first|exact ⟨rfl,_,World.drewN_drewN _ _ _⟩|exact ⟨rfl,_,Eq.trans (World.drewN_drewN _ _ _) (congrArg (World.drewN _) (Nat.add_assoc _ _ _))⟩)))
    repeat (go_quiet (first|(go_at_call 27;(with_reducible refine (a_2.calls ((a_a l0_1 x3_1).f7) ((a_a l0_1 x3_1).f4) t221 _ A21.out).mono ?_);rintro e w' ⟨rfl,⟨nd,rfl⟩⟩;(try first|exact ⟨rfl,_,World.drewN_drewN _ _ _⟩|exact ⟨rfl,_,Eq.trans (World.drewN_drewN _ _ _) (congrArg (World.drewN _) (Nat.add_assoc _ _ _))⟩)));try go_wp2_with (first|(go_at_call 27;(with_reducible refine (a_2.calls ((a_a l0_1 x3_1).f7) ((a_a l0_1 x3_1).f4) t221 _ A21.out).mono ?_);rintro e w' ⟨rfl,⟨nd,rfl⟩⟩;(try first|exact ⟨rfl,_,World.drewN_drewN _ _ _⟩|exact ⟨rfl,_,Eq.trans (World.drewN_drewN _ _ _) (congrArg (World.drewN _) (Nat.add_assoc _ _ _))⟩))))
    go_meet
    case rel => (try rw [← Nbq15.out]);(try rw [← Nbq17.out]);exact ⟨_,(!t221),(by first|rfl|(simp;done)|(simp [*];done)),H',⟨by have:=HK1.out;first|omega|exact Nat.le_refl _⟩,⟨by (with_reducible repeat (first|refine a_e ?_ _|refine a_h ?_|refine a_d ?_ _));refine a_o ?_ a_Y.out _;(with_reducible repeat (first|refine a_e ?_ _|refine a_h ?_|refine a_d ?_ _));refine a_o ?_ a_Y.out _;(with_reducible repeat (first|refine a_e ?_ _|refine a_h ?_|refine a_d ?_ _));refine a_o ?_ a_Y.out _;(with_reducible repeat (first|refine a_e ?_ _|refine a_h ?_|refine a_d ?_ _));refine a_o ?_ a_Y.out _;(with_reducible repeat (first|refine a_e ?_ _|refine a_h ?_|refine a_d ?_ _));refine a_o ?_ a_Y.out _;(with_reducible repeat (first|refine a_e ?_ _|refine a_h ?_|refine a_d ?_ _));refine a_o ?_ a_Y.out _;(with_reducible repeat (first|refine a_e ?_ _|refine a_h ?_|refine a_d ?_ _));refine a_o ?_ a_Y.out _;(with_reducible repeat (first|refine a_e ?_ _|refine a_h ?_|refine a_d ?_ _));refine a_o ?_ a_Y.out _;(with_reducible repeat (first|refine a_e ?_ _|refine a_h ?_|refine a_d ?_ _));refine a_o ?_ a_Y.out _;(with_reducible repeat (first|refine a_e ?_ _|refine a_h ?_|refine a_d ?_ _));refine a_o ?_ a_Y.out _;(with_reducible repeat (first|refine a_e ?_ _|refine a_h ?_|refine a_d ?_ _));refine a_o ?_ a_Y.out _;(with_reducible repeat (first|refine a_e ?_ _|refine a_h ?_|refine a_d ?_ _));exact c_x.out⟩,⟨by (with_reducible repeat (first|refine a_e ?_ _|refine a_h ?_|refine a_d ?_ _));refine a_r (cs:=#[.int .i64 ((a_a l0_1 x3_1).f0),.int .i64 ((a_a l0_1 x3_1).f1),.int .i64 ((a_a l0_1 x3_1).f2),.int .i64 ((a_a l0_1 x3_1).f3),.int .i64 ((a_a l0_1 x3_1).f4),.bool (true),.bool (false),.int .u32 ((a_a l0_1 x3_1).f7),.int .i64 ((a_a l0_1 x3_1).f8),.int .i64 ((a_a l0_1 x3_1).f9),.int .i64 0]) ?_ 10 _ rfl;(with_reducible repeat (first|refine a_e ?_ _|refine a_h ?_|refine a_d ?_ _));refine a_r (cs:=#[.int .i64 ((a_a l0_1 x3_1).f0),.int .i64 ((a_a l0_1 x3_1).f1),.int .i64 ((a_a l0_1 x3_1).f2),.int .i64 ((a_a l0_1 x3_1).f3),.int .i64 ((a_a l0_1 x3_1).f4),.bool (true),.bool (false),.int .u32 ((a_a l0_1 x3_1).f7),.int .i64 ((a_a l0_1 x3_1).f8),.int .i64 0,.int .i64 0]) ?_ 9 _ rfl;(with_reducible repeat (first|refine a_e ?_ _|refine a_h ?_|refine a_d ?_ _));refine a_r (cs:=#[.int .i64 ((a_a l0_1 x3_1).f0),.int .i64 ((a_a l0_1 x3_1).f1),.int .i64 ((a_a l0_1 x3_1).f2),.int .i64 ((a_a l0_1 x3_1).f3),.int .i64 ((a_a l0_1 x3_1).f4),.bool (true),.bool (false),.int .u32 ((a_a l0_1 x3_1).f7),.int .i64 0,.int .i64 0,.int .i64 0]) ?_ 8 _ rfl;(with_reducible repeat (first|refine a_e ?_ _|refine a_h ?_|refine a_d ?_ _));refine a_r (cs:=#[.int .i64 ((a_a l0_1 x3_1).f0),.int .i64 ((a_a l0_1 x3_1).f1),.int .i64 ((a_a l0_1 x3_1).f2),.int .i64 ((a_a l0_1 x3_1).f3),.int .i64 ((a_a l0_1 x3_1).f4),.bool (true),.bool (false),.int .u32 0,.int .i64 0,.int .i64 0,.int .i64 0]) ?_ 7 _ rfl;(with_reducible repeat (first|refine a_e ?_ _|refine a_h ?_|refine a_d ?_ _));refine a_r (cs:=#[.int .i64 ((a_a l0_1 x3_1).f0),.int .i64 ((a_a l0_1 x3_1).f1),.int .i64 ((a_a l0_1 x3_1).f2),.int .i64 ((a_a l0_1 x3_1).f3),.int .i64 ((a_a l0_1 x3_1).f4),.bool (true),.bool false,.int .u32 0,.int .i64 0,.int .i64 0,.int .i64 0]) ?_ 6 _ rfl;(with_reducible repeat (first|refine a_e ?_ _|refine a_h ?_|refine a_d ?_ _));refine a_r (cs:=#[.int .i64 ((a_a l0_1 x3_1).f0),.int .i64 ((a_a l0_1 x3_1).f1),.int .i64 ((a_a l0_1 x3_1).f2),.int .i64 ((a_a l0_1 x3_1).f3),.int .i64 ((a_a l0_1 x3_1).f4),.bool false,.bool false,.int .u32 0,.int .i64 0,.int .i64 0,.int .i64 0]) ?_ 5 _ rfl;(with_reducible repeat (first|refine a_e ?_ _|refine a_h ?_|refine a_d ?_ _));refine a_r (cs:=#[.int .i64 ((a_a l0_1 x3_1).f0),.int .i64 ((a_a l0_1 x3_1).f1),.int .i64 ((a_a l0_1 x3_1).f2),.int .i64 ((a_a l0_1 x3_1).f3),.int .i64 0,.bool false,.bool false,.int .u32 0,.int .i64 0,.int .i64 0,.int .i64 0]) ?_ 4 _ rfl;(with_reducible repeat (first|refine a_e ?_ _|refine a_h ?_|refine a_d ?_ _));refine a_r (cs:=#[.int .i64 ((a_a l0_1 x3_1).f0),.int .i64 ((a_a l0_1 x3_1).f1),.int .i64 ((a_a l0_1 x3_1).f2),.int .i64 0,.int .i64 0,.bool false,.bool false,.int .u32 0,.int .i64 0,.int .i64 0,.int .i64 0]) ?_ 3 _ rfl;(with_reducible repeat (first|refine a_e ?_ _|refine a_h ?_|refine a_d ?_ _));refine a_r (cs:=#[.int .i64 ((a_a l0_1 x3_1).f0),.int .i64 ((a_a l0_1 x3_1).f1),.int .i64 0,.int .i64 0,.int .i64 0,.bool false,.bool false,.int .u32 0,.int .i64 0,.int .i64 0,.int .i64 0]) ?_ 2 _ rfl;(with_reducible repeat (first|refine a_e ?_ _|refine a_h ?_|refine a_d ?_ _));refine a_r (cs:=#[.int .i64 ((a_a l0_1 x3_1).f0),.int .i64 0,.int .i64 0,.int .i64 0,.int .i64 0,.bool false,.bool false,.int .u32 0,.int .i64 0,.int .i64 0,.int .i64 0]) ?_ 1 _ rfl;(with_reducible repeat (first|refine a_e ?_ _|refine a_h ?_|refine a_d ?_ _));refine a_r (cs:=#[.int .i64 0,.int .i64 0,.int .i64 0,.int .i64 0,.int .i64 0,.bool false,.bool false,.int .u32 0,.int .i64 0,.int .i64 0,.int .i64 0]) ?_ 0 _ rfl;(with_reducible repeat (first|refine a_e ?_ _|refine a_h ?_|refine a_d ?_ _));exact a_M.out⟩,⟨by repeat (first|(with_reducible first|exact HB.out|apply a_j|apply a_f|apply a_k|refine a_i ?_ d_5.out|refine a_i ?_ h_T.out)|exact HB.out)⟩⟩
   case rest =>
    clear HC10
    try clear c1
    try clear q1
    try clear c2
    try clear p2
    try clear q2
    try clear hx2
    try clear c3
    try clear c3b0
    try clear c4
    try clear c4b0
    try clear c5
    try clear c5b0
    try clear p6
    try clear c8
    try clear c10
    try clear c13
    try clear q15
    try clear c16
    try clear q17
    try clear c18
    try clear c19
    try clear p21
    try clear q21
    try clear hx21
    try clear c22
    try clear c24
    try clear i_g
    try clear i_h
    try clear f_y
    try clear f_z
    try clear e_P
    try clear f_A
    try clear f_B
    try clear f_C
    try clear f_D
    try clear f_E
    try clear f_F
    try clear f_G
    try clear f_H
    try clear g_B
    try clear h_a
    try clear k_h
    try clear m_K
    try clear m_L
    try clear m_M
    try clear m_N
    try clear m_O
    try clear m_P
    try clear m_Q
    try clear m_R
    try clear h_b
    try clear h_d
    try clear i_D
    try clear k_k
    try clear k_l
    try clear k_m
    try clear k_n
    try clear k_o
    try clear k_p
    try clear k_q
    try clear k_r
    try clear f_7
    try clear f_8
    try clear f_v
    try clear g_C
    try clear g_D
    try clear g_E
    try clear g_F
    try clear g_G
    try clear g_H
    try clear g_I
    try clear g_J
    try clear l_T
    try clear l_U
    try clear j_H
    try clear j_I
    try clear k_w
    try clear o_f
    try clear o_g
    try clear o_h
    try clear o_i
    try clear o_j
    try clear o_k
    try clear o_l
    try clear o_m
    try clear i_k
    try clear g_L
    try clear f_I
    try clear f_J
    try clear e_Q
    try clear f_K
    try clear f_L
    try clear f_M
    try clear f_N
    try clear f_O
    try clear f_P
    try clear f_Q
    try clear f_R
    try clear g_M
    try clear h_i
    try clear k_L
    try clear n_h
    try clear n_i
    try clear n_j
    try clear n_k
    try clear n_l
    try clear n_m
    try clear n_n
    try clear n_o
    try clear h_j
    try clear h_k
    try clear i_F
    try clear k_O
    try clear k_P
    try clear k_Q
    try clear k_R
    try clear k_S
    try clear k_T
    try clear k_U
    try clear k_V
    try clear f_9
    try clear g_a
    try clear f_w
    try clear g_N
    try clear g_O
    try clear g_P
    try clear g_Q
    try clear g_R
    try clear g_S
    try clear g_T
    try clear g_U
    try clear l_V
    try clear l_W
    try clear j_J
    try clear j_K
    try clear k_0
    try clear o_u
    try clear o_v
    try clear o_w
    try clear o_x
    try clear o_y
    try clear o_z
    try clear o_A
    try clear o_B
    try clear g_e
    try clear g_f
    try clear e_0
    try clear g_g
    try clear g_h
    try clear g_i
    try clear g_j
    try clear g_k
    try clear g_l
    try clear g_m
    try clear g_n
    try clear p2
    try clear p219
    try clear q219
    obtain ⟨kq,x35_9,rfl,HA,HJ9,c_x,a_M,HB⟩:=hcut
    cases kq with
    | zero => exact absurd HA.out (by simp [a_q.j1])
    | succ kj9 =>
     have H:=HA.out
     clear HA
     simp only [a_q.j1] at H
     by_cases c26 : x35_9 = true
     ·subst c26
      have H1 : (some false) = some r:=by rw [if_pos rfl] at H;exact H
      clear H
      have H:=H1
      clear H1
      obtain rfl:=Option.some.inj H
      go_wp2
      repeat (go_quiet (fail);try go_wp2)
      go_ret
      exact ⟨by first|rfl|(simp [a_u,a_v] <;> rfl)|(simp [*, a_u,a_v] <;> rfl),by repeat (first|(with_reducible first|exact HB.out|apply a_j|apply a_f|apply a_k|refine a_i ?_ d_5.out|refine a_i ?_ h_T.out)|exact HB.out)⟩
     replace c26:=Bool.eq_false_iff.mpr c26
     subst c26
     have H1 : (a_q.l1 kj9 x3_1 0 a0_0 l0_1 ((a_a l0_1 x3_1).f0) ((a_a l0_1 x3_1).f1) ((a_a l0_1 x3_1).f2) ((a_a l0_1 x3_1).f3) ((a_a l0_1 x3_1).f4) ((a_a l0_1 x3_1).f5) ((a_a l0_1 x3_1).f6) ((a_a l0_1 x3_1).f7) ((a_a l0_1 x3_1).f8) ((a_a l0_1 x3_1).f9) ((a_a l0_1 x3_1).f10)) = some r:=by rw [if_neg (show ¬ (false = true) by decide)] at H;exact H
     clear H
     have H:=H1
     clear H1
     have H':=a_g.mk H
     clear H
     go_wp2
     repeat (go_quiet (fail);try go_wp2)
     go_loopg [5] kj9 (fun kq v5 w' => ∃ (x5_3 : Int),v5 = .int .i64 x5_3 ∧ a_g (a_q.l1 kq x3_1 x5_3 a0_0 l0_1 ((a_a l0_1 x3_1).f0) ((a_a l0_1 x3_1).f1) ((a_a l0_1 x3_1).f2) ((a_a l0_1 x3_1).f3) ((a_a l0_1 x3_1).f4) ((a_a l0_1 x3_1).f5) ((a_a l0_1 x3_1).f6) ((a_a l0_1 x3_1).f7) ((a_a l0_1 x3_1).f8) ((a_a l0_1 x3_1).f9) ((a_a l0_1 x3_1).f10) = some r) ∧ a_g (kq ≤ kj9) ∧ a_g (w'.heap[d_Z]? = some (.cells #[.int .i64 a0_0,(.slice (some ad219) l0_1.length c0_1)] 24 (0,0))) ∧ a_g (w'.heap[a_4]? = some (.cells #[.int .i64 ((a_a l0_1 x3_1).f0),.int .i64 ((a_a l0_1 x3_1).f1),.int .i64 ((a_a l0_1 x3_1).f2),.int .i64 ((a_a l0_1 x3_1).f3),.int .i64 ((a_a l0_1 x3_1).f4),.bool ((a_a l0_1 x3_1).f5),.bool ((a_a l0_1 x3_1).f6),.int .u32 ((a_a l0_1 x3_1).f7),.int .i64 ((a_a l0_1 x3_1).f8),.int .i64 ((a_a l0_1 x3_1).f9),.int .i64 ((a_a l0_1 x3_1).f10)] 33 (0,0))) ∧ a_g (Below w.heap.size w w'))
     case atStart => exact ⟨(0),(by first|rfl|(simp;done)|(simp [*];done)),H',⟨Nat.le_refl _⟩,⟨by (with_reducible repeat (first|refine a_e ?_ _|refine a_h ?_|refine a_d ?_ _));exact c_x.out⟩,⟨by (with_reducible repeat (first|refine a_e ?_ _|refine a_h ?_|refine a_d ?_ _));exact a_M.out⟩,⟨by repeat (first|(with_reducible first|exact HB.out|apply a_j|apply a_f|apply a_k|refine a_i ?_ d_5.out|refine a_i ?_ h_T.out)|exact HB.out)⟩⟩
     case round =>
      clear H'
      try clear c1
      try clear q1
      try clear c2
      try clear p2
      try clear q2
      try clear hx2
      try clear c3
      try clear c3b0
      try clear c4
      try clear c4b0
      try clear c5
      try clear c5b0
      try clear p6
      try clear c8
      try clear c10
      try clear c13
      try clear q15
      try clear c16
      try clear q17
      try clear c18
      try clear c19
      try clear p21
      try clear q21
      try clear hx21
      try clear c22
      try clear c24
      try clear c26
      try clear i_g
      try clear i_h
      try clear f_y
      try clear f_z
      try clear e_P
      try clear f_A
      try clear f_B
      try clear f_C
      try clear f_D
      try clear f_E
      try clear f_F
      try clear f_G
      try clear f_H
      try clear g_B
      try clear h_a
      try clear k_h
      try clear m_K
      try clear m_L
      try clear m_M
      try clear m_N
      try clear m_O
      try clear m_P
      try clear m_Q
      try clear m_R
      try clear h_b
      try clear h_d
      try clear i_D
      try clear k_k
      try clear k_l
      try clear k_m
      try clear k_n
      try clear k_o
      try clear k_p
      try clear k_q
      try clear k_r
      try clear f_7
      try clear f_8
      try clear f_v
      try clear g_C
      try clear g_D
      try clear g_E
      try clear g_F
      try clear g_G
      try clear g_H
      try clear g_I
      try clear g_J
      try clear l_T
      try clear l_U
      try clear j_H
      try clear j_I
      try clear k_w
      try clear o_f
      try clear o_g
      try clear o_h
      try clear o_i
      try clear o_j
      try clear o_k
      try clear o_l
      try clear o_m
      try clear i_k
      try clear g_L
      try clear f_I
      try clear f_J
      try clear e_Q
      try clear f_K
      try clear f_L
      try clear f_M
      try clear f_N
      try clear f_O
      try clear f_P
      try clear f_Q
      try clear f_R
      try clear g_M
      try clear h_i
      try clear k_L
      try clear n_h
      try clear n_i
      try clear n_j
      try clear n_k
      try clear n_l
      try clear n_m
      try clear n_n
      try clear n_o
      try clear h_j
      try clear h_k
      try clear i_F
      try clear k_O
      try clear k_P
      try clear k_Q
      try clear k_R
      try clear k_S
      try clear k_T
      try clear k_U
      try clear k_V
      try clear f_9
      try clear g_a
      try clear f_w
      try clear g_N
      try clear g_O
      try clear g_P
      try clear g_Q
      try clear g_R
      try clear g_S
      try clear g_T
      try clear g_U
      try clear l_V
      try clear l_W
      try clear j_J
      try clear j_K
      try clear k_0
      try clear o_u
      try clear o_v
      try clear o_w
      try clear o_x
      try clear o_y
      try clear o_z
      try clear o_A
      try clear o_B
      try clear g_e
      try clear g_f
      try clear e_0
      try clear g_g
      try clear g_h
      try clear g_i
      try clear g_j
      try clear g_k
      try clear g_l
      try clear g_m
      try clear g_n
      try clear p2
      try clear p21
      try clear p219
      try clear p6
      try clear q1
      try clear q15
      try clear q17
      try clear q2
      try clear q21
      try clear q219
      obtain ⟨x5_3,rfl,HA,HK3,c_x,a_M,HB⟩:=hrel
      cases gk with
      | zero => exact absurd HA.out (by simp [a_q.l1])
      | succ k3 =>
       have H:=HA.out
       clear HA
       simp only [a_q.l1] at H
       by_cases c27 : x5_3 < x3_1
       rotate_left
       ·rw [if_neg c27] at H
        have c27b0 : decide (x5_3 < x3_1) = false:=decide_eq_false c27
        clear c27
        have H':=a_g.mk H
        clear H
        go_wp2
        repeat (go_quiet (fail);try go_wp2)
        go_roundg k3
        case measure => have:=HK1.out;have:=HJ9.out;have:=HK3.out;omega
        case rel => exact ⟨(wrap64 (x3_1 + 1)),(by first|rfl|(simp;done)|(simp [*];done)),H',⟨by have:=HK1.out;have:=HJ9.out;have:=HK3.out;omega⟩,⟨by (with_reducible repeat (first|refine a_e ?_ _|refine a_h ?_|refine a_d ?_ _));exact c_x.out⟩,⟨by repeat (first|(with_reducible first|exact HB.out|apply a_j|apply a_f|apply a_k|refine a_i ?_ d_5.out|refine a_i ?_ h_T.out)|exact HB.out)⟩⟩
       rw [if_pos c27] at H
       have c27b0 : decide (x5_3 < x3_1) = true:=decide_eq_true c27
       clear c27
       by_cases c28 : 0 ≤ x5_3
       rotate_left
       ·rw [if_neg c28] at H
        exact absurd H (by simp)
       rw [if_pos c28] at H
       have c28b0 : decide (0 ≤ x5_3) = true:=decide_eq_true c28
       clear c28
       by_cases c29 : x5_3 < (l0_1.length : Int)
       rotate_left
       ·rw [if_neg c29] at H
        exact absurd H (by simp)
       rw [if_pos c29] at H
       have c29b0 : decide (x5_3 < (l0_1.length : Int)) = true:=decide_eq_true c29
       clear c29
       by_cases c30 : ((a_a l0_1 x5_3).f4) = ((a_a l0_1 x3_1).f4)
       ·rw [if_pos c30] at H
        have c30b0 : (((a_a l0_1 x5_3).f4) == ((a_a l0_1 x3_1).f4)) = true:=beq_iff_eq.mpr c30
        have c30b1 : (((a_a l0_1 x5_3).f4) != ((a_a l0_1 x3_1).f4)) = false:=bne_eq_false_iff_eq.mpr c30
        clear c30
        obtain rfl:=Option.some.inj H
        have I_x:=a_Y.out
        have I_5:=c_I.out
        have t_1 : wr.cell? ⟨d_Z,0,none⟩ = some (.int .i64 a0_0):=(a_b c_x.out 0).trans rfl
        have t_2 : wr.cell? ⟨d_Z,1,none⟩ = some (.slice (some ad219) l0_1.length c0_1):=(a_b c_x.out 1).trans rfl
        have v_O:=a_c c_x.out 0
        have v_P:=a_c c_x.out 1
        have p222 : 0 ≤ (x5_3 : Int):=of_decide_eq_true (by first|(with_reducible assumption)|assumption)
        have q222 : x5_3 < (l0_1.length : Int):=of_decide_eq_true (by first|(with_reducible assumption)|assumption)
        obtain ⟨ad222,e222,h_x,h_y,h_z,h_A,h_B,h_C,h_D,h_E,h_F,h_G,g_o⟩:=c_e b_v.out x5_3 p222 q222
        obtain rfl : ad219 = ad222:=(by injection e222)
        replace h_x:=(HB.out.cell (World.block_lt_of_cell? w _ h_x)).trans h_x
        replace h_y:=(HB.out.cell (World.block_lt_of_cell? w _ h_y)).trans h_y
        replace h_z:=(HB.out.cell (World.block_lt_of_cell? w _ h_z)).trans h_z
        replace h_A:=(HB.out.cell (World.block_lt_of_cell? w _ h_A)).trans h_A
        replace h_B:=(HB.out.cell (World.block_lt_of_cell? w _ h_B)).trans h_B
        replace h_C:=(HB.out.cell (World.block_lt_of_cell? w _ h_C)).trans h_C
        replace h_D:=(HB.out.cell (World.block_lt_of_cell? w _ h_D)).trans h_D
        replace h_E:=(HB.out.cell (World.block_lt_of_cell? w _ h_E)).trans h_E
        replace h_F:=(HB.out.cell (World.block_lt_of_cell? w _ h_F)).trans h_F
        replace h_G:=(HB.out.cell (World.block_lt_of_cell? w _ h_G)).trans h_G
        replace g_o:=(HB.out.cell (World.block_lt_of_cell? w _ g_o)).trans g_o
        replace p222:=eq_true p222
        replace q222:=eq_true q222
        have i_5 : wr.cell? ⟨a_4,0,none⟩ = some (.int .i64 ((a_a l0_1 x3_1).f0)):=(a_b a_M.out 0).trans rfl
        have i_6 : wr.cell? ⟨a_4,1,none⟩ = some (.int .i64 ((a_a l0_1 x3_1).f1)):=(a_b a_M.out 1).trans rfl
        have p_7 : wr.cell? ⟨a_4,2,none⟩ = some (.int .i64 ((a_a l0_1 x3_1).f2)):=(a_b a_M.out 2).trans rfl
        have p_8 : wr.cell? ⟨a_4,3,none⟩ = some (.int .i64 ((a_a l0_1 x3_1).f3)):=(a_b a_M.out 3).trans rfl
        have p_9 : wr.cell? ⟨a_4,4,none⟩ = some (.int .i64 ((a_a l0_1 x3_1).f4)):=(a_b a_M.out 4).trans rfl
        have q_a : wr.cell? ⟨a_4,5,none⟩ = some (.bool ((a_a l0_1 x3_1).f5)):=(a_b a_M.out 5).trans rfl
        have q_b : wr.cell? ⟨a_4,6,none⟩ = some (.bool ((a_a l0_1 x3_1).f6)):=(a_b a_M.out 6).trans rfl
        have q_d : wr.cell? ⟨a_4,7,none⟩ = some (.int .u32 ((a_a l0_1 x3_1).f7)):=(a_b a_M.out 7).trans rfl
        have q_e : wr.cell? ⟨a_4,8,none⟩ = some (.int .i64 ((a_a l0_1 x3_1).f8)):=(a_b a_M.out 8).trans rfl
        have q_f : wr.cell? ⟨a_4,9,none⟩ = some (.int .i64 ((a_a l0_1 x3_1).f9)):=(a_b a_M.out 9).trans rfl
        have o_b : wr.cell? ⟨a_4,10,none⟩ = some (.int .i64 ((a_a l0_1 x3_1).f10)):=(a_b a_M.out 10).trans rfl
        have j_b:=a_c a_M.out 0
        have j_c:=a_c a_M.out 1
        have q_Y:=a_c a_M.out 2
        have q_Z:=a_c a_M.out 3
        have q_0:=a_c a_M.out 4
        have q_1:=a_c a_M.out 5
        have q_2:=a_c a_M.out 6
        have q_3:=a_c a_M.out 7
        have q_4:=a_c a_M.out 8
        have q_5:=a_c a_M.out 9
        have o_q:=a_c a_M.out 10
        go_wp2
        repeat (go_quiet (fail);try go_wp2)
        go_ret
        exact ⟨by first|rfl|(simp [a_u,a_v] <;> rfl)|(simp [*, a_u,a_v] <;> rfl),by repeat (first|(with_reducible first|exact HB.out|apply a_j|apply a_f|apply a_k|refine a_i ?_ d_5.out|refine a_i ?_ h_T.out)|exact HB.out)⟩
       rw [if_neg c30] at H
       have c30b0 : (((a_a l0_1 x5_3).f4) == ((a_a l0_1 x3_1).f4)) = false:=beq_eq_false_iff_ne.mpr c30
       have c30b1 : (((a_a l0_1 x5_3).f4) != ((a_a l0_1 x3_1).f4)) = true:=bne_iff_ne.mpr c30
       have H':=a_g.mk H
       clear H
       have H_p:=a_Y.out
       have H_z:=c_I.out
       have t_5 : wr.cell? ⟨d_Z,0,none⟩ = some (.int .i64 a0_0):=(a_b c_x.out 0).trans rfl
       have A_B : wr.cell? ⟨d_Z,1,none⟩ = some (.slice (some ad219) l0_1.length c0_1):=(a_b c_x.out 1).trans rfl
       have v_S:=a_c c_x.out 0
       have E_j:=a_c c_x.out 1
       have p222 : 0 ≤ (x5_3 : Int):=of_decide_eq_true (by first|(with_reducible assumption)|assumption)
       have q222 : x5_3 < (l0_1.length : Int):=of_decide_eq_true (by first|(with_reducible assumption)|assumption)
       obtain ⟨ad222,e222,h_x,h_y,h_z,h_A,h_B,h_C,h_D,h_E,h_F,h_G,g_o⟩:=c_e b_v.out x5_3 p222 q222
       obtain rfl : ad219 = ad222:=(by injection e222)
       replace h_x:=(HB.out.cell (World.block_lt_of_cell? w _ h_x)).trans h_x
       replace h_y:=(HB.out.cell (World.block_lt_of_cell? w _ h_y)).trans h_y
       replace h_z:=(HB.out.cell (World.block_lt_of_cell? w _ h_z)).trans h_z
       replace h_A:=(HB.out.cell (World.block_lt_of_cell? w _ h_A)).trans h_A
       replace h_B:=(HB.out.cell (World.block_lt_of_cell? w _ h_B)).trans h_B
       replace h_C:=(HB.out.cell (World.block_lt_of_cell? w _ h_C)).trans h_C
       replace h_D:=(HB.out.cell (World.block_lt_of_cell? w _ h_D)).trans h_D
       replace h_E:=(HB.out.cell (World.block_lt_of_cell? w _ h_E)).trans h_E
       replace h_F:=(HB.out.cell (World.block_lt_of_cell? w _ h_F)).trans h_F
       replace h_G:=(HB.out.cell (World.block_lt_of_cell? w _ h_G)).trans h_G
       replace g_o:=(HB.out.cell (World.block_lt_of_cell? w _ g_o)).trans g_o
       replace p222:=eq_true p222
       replace q222:=eq_true q222
       have k_u : wr.cell? ⟨a_4,0,none⟩ = some (.int .i64 ((a_a l0_1 x3_1).f0)):=(a_b a_M.out 0).trans rfl
       have k_v : wr.cell? ⟨a_4,1,none⟩ = some (.int .i64 ((a_a l0_1 x3_1).f1)):=(a_b a_M.out 1).trans rfl
       have q_g : wr.cell? ⟨a_4,2,none⟩ = some (.int .i64 ((a_a l0_1 x3_1).f2)):=(a_b a_M.out 2).trans rfl
       have q_h : wr.cell? ⟨a_4,3,none⟩ = some (.int .i64 ((a_a l0_1 x3_1).f3)):=(a_b a_M.out 3).trans rfl
       have q_i : wr.cell? ⟨a_4,4,none⟩ = some (.int .i64 ((a_a l0_1 x3_1).f4)):=(a_b a_M.out 4).trans rfl
       have q_j : wr.cell? ⟨a_4,5,none⟩ = some (.bool ((a_a l0_1 x3_1).f5)):=(a_b a_M.out 5).trans rfl
       have q_k : wr.cell? ⟨a_4,6,none⟩ = some (.bool ((a_a l0_1 x3_1).f6)):=(a_b a_M.out 6).trans rfl
       have q_l : wr.cell? ⟨a_4,7,none⟩ = some (.int .u32 ((a_a l0_1 x3_1).f7)):=(a_b a_M.out 7).trans rfl
       have q_m : wr.cell? ⟨a_4,8,none⟩ = some (.int .i64 ((a_a l0_1 x3_1).f8)):=(a_b a_M.out 8).trans rfl
       have q_n : wr.cell? ⟨a_4,9,none⟩ = some (.int .i64 ((a_a l0_1 x3_1).f9)):=(a_b a_M.out 9).trans rfl
       have o_c : wr.cell? ⟨a_4,10,none⟩ = some (.int .i64 ((a_a l0_1 x3_1).f10)):=(a_b a_M.out 10).trans rfl
       have k_Y:=a_c a_M.out 0
       have k_Z:=a_c a_M.out 1
       have q_6:=a_c a_M.out 2
       have q_7:=a_c a_M.out 3
       have q_8:=a_c a_M.out 4
       have q_9:=a_c a_M.out 5
       have r_a:=a_c a_M.out 6
       have r_b:=a_c a_M.out 7
       have r_c:=a_c a_M.out 8
       have r_d:=a_c a_M.out 9
       have o_r:=a_c a_M.out 10
       go_wp2
       repeat (go_quiet (fail);try go_wp2)
       go_roundg k3
       case measure => have:=HK1.out;have:=HJ9.out;have:=HK3.out;omega
       case rel => exact ⟨(wrap64 (x5_3 + 1)),(by first|rfl|(simp;done)|(simp [*];done)),H',⟨by have:=HK1.out;have:=HJ9.out;have:=HK3.out;omega⟩,⟨by (with_reducible repeat (first|refine a_e ?_ _|refine a_h ?_|refine a_d ?_ _));exact c_x.out⟩,⟨by (with_reducible repeat (first|refine a_e ?_ _|refine a_h ?_|refine a_d ?_ _));exact a_M.out⟩,⟨by repeat (first|(with_reducible first|exact HB.out|apply a_j|apply a_f|apply a_k|refine a_i ?_ d_5.out|refine a_i ?_ h_T.out)|exact HB.out)⟩⟩
end Go.Proofs.YtgglkfilkagblaaDoor.Q
end
